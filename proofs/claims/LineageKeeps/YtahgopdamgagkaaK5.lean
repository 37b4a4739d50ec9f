/- What is asked of a lineage. -/
import Derived.Test.YtahgopdamgagkaaK4
namespace Go.Proofs.Ytahgopdamgagkaa
set_option linter.all false
open Go.Vc Go.Proofs
set_option linter.unusedSimpArgs false
set_option maxRecDepth 100000
set_option maxHeartbeats 4000000
attribute [local irreducible] CallW EqK

abbrev avTwo (a : AV) (e : Int) : AV := .tup (.cons a (.cons (avInt e) .nil))
def val (L : List Th) (t : Int) : Bool := decide (0 ≤ t ∧ t < L.length)
noncomputable def ordL (L : List Th) (t : Int) : List Int := match ordOf L t with | some o => o | none => []
def thAt (L : List Th) (t : Int) : Th := L.getD t.toNat ⟨0, -1, -1, -1, [], []⟩
theorem thAt_eq {L : List Th} {t : Nat} (h : t < L.length) : thAt L t = L[t] := by simp [thAt, h]
theorem val_nat {L : List Th} {t : Int} (h : val L t = true) : ∃ k : Nat, t = k ∧ k < L.length := by
  simp only [val, decide_eq_true_eq] at h
  exact ⟨t.toNat, by omega, by omega⟩

/-- A lineage in order. -/
structure WFL (L : List Th) : Prop where
  base : ∃ r, Base L r
  full : ∀ t : Nat, t < L.length → ∃ o, ordOf L t = some o
theorem WFL.ord {L : List Th} (W : WFL L) {t : Nat} (h : t < L.length) : ordOf L t = some (ordL L t) := by
  obtain ⟨o, ho⟩ := W.full t h
  unfold ordL; rw [ho]

/- (*cabochon/lineage.Lineage).Len -/
theorem len_ok (L : List Th) (hl : L.length ≤ 1000) : Meets Try.prog 12 [dL L] (.cons (.ptr 0 [.d]) .nil) fun av X κ => av = avInt L.length ∧ X = [dL L] ∧ κ = [] := by
  refine Meets.of_vs tabOk Try.func12 (body := ?_) ?_ (by kernel_rfl) Try.ntmps12 (rs := [.tmp 2]) (by kernel_rfl) rfl (by simp [AV.len]) (by simp only [envOf]; exact rfl) ?_
  rotate_left
  · rfl
  intro w0 I0 F0 hF
  repeat first
    | refine VS.seq ?_
    | refine VS.skip ?_
    | (refine VS.keepAt 0 [0] ?_; generalize hK : VS _ _ _ = KK; (try simp); (try subst hK); refine VS.region tabOk (id := 0) [] (by kernel_rfl) ?_; generalize hK : VS _ _ _ = KK; simp (maxSteps := 1000000) [hF, dL]; (try subst hK); try (refine VS.keep [0] ?_; generalize hK : VS _ _ _ = KK; simp; (try subst hK)))
    | (refine VS.keepAt 1 [0] ?_; generalize hK : VS _ _ _ = KK; (try simp); (try subst hK); refine VS.region tabOk (id := 1) [] (by kernel_rfl) ?_; generalize hK : VS _ _ _ = KK; simp (maxSteps := 1000000) [hF, dL]; (try subst hK); try (refine VS.keep [0, 4] ?_; generalize hK : VS _ _ _ = KK; simp; (try subst hK)))
    | (refine VS.keepAt 3 [0] ?_; generalize hK : VS _ _ _ = KK; (try simp); (try subst hK); refine VS.region tabOk (id := 3) [] (by kernel_rfl) ?_; generalize hK : VS _ _ _ = KK; simp (maxSteps := 1000000) [hF, dL]; (try subst hK); try (refine VS.keep [2] ?_; generalize hK : VS _ _ _ = KK; simp; (try subst hK)))
    | (refine VS.cond ?_; generalize hK1 : VS _ _ _ = KK1; generalize hK2 : VS _ _ _ = KK2; simp (maxSteps := 1000000) [hF, dL]; (try subst hK1); (try subst hK2))
  try refine VS.ret ?_
  repeat first | refine blockN_ret ?_ | refine loopN_ret ?_
  refine endK.of [2] [0] [] (by simp [hF]) (by simp [covers, mpre]) ?_
  simp [hF, retK, dL]

/- (*cabochon/lineage.Lineage).is -/
theorem is_ok (L : List Th) (hl : L.length ≤ 1000) (t : Int) : Meets Try.prog 31 [dL L] (.cons (.ptr 0 [.d]) (.cons (avInt t) .nil)) fun av X κ => av = avBool (val L t) ∧ X = [dL L] ∧ κ = [] := by
  refine Meets.of_vs tabOk Try.func31 (body := ?_) ?_ (by kernel_rfl) Try.ntmps31 (rs := [.tmp 4]) (by kernel_rfl) rfl (by simp [AV.len]) (by simp only [envOf]; exact rfl) ?_
  rotate_left
  · rfl
  intro w0 I0 F0 hF
  by_cases h1 : 0 ≤ t
  · by_cases h2 : t < L.length
    · repeat first
        | refine VS.seq ?_
        | (refine VS.keepAt 0 [0, 1] ?_; generalize hK : VS _ _ _ = KK; (try simp); (try subst hK); refine VS.region tabOk (id := 0) [] (by kernel_rfl) ?_; generalize hK : VS _ _ _ = KK; simp (maxSteps := 1000000) [hF, dL, h1, h2]; (try subst hK); try (refine VS.keep [0, 1] ?_; generalize hK : VS _ _ _ = KK; simp; (try subst hK)))
        | (refine VS.keepAt 1 [0, 1] ?_; generalize hK : VS _ _ _ = KK; (try simp); (try subst hK); refine VS.region tabOk (id := 1) [(2, 7), (6, 11)] (by kernel_rfl) ?_; generalize hK : VS _ _ _ = KK; simp (maxSteps := 1000000) [hF, dL, h1, h2]; (try subst hK); try (refine VS.keep [4] ?_; generalize hK : VS _ _ _ = KK; simp; (try subst hK)))
      try refine VS.ret ?_
      repeat first | refine blockN_ret ?_ | refine loopN_ret ?_
      refine endK.of [4] [0] [] (by simp [hF]) (by simp [covers, mpre]) ?_
      simp [hF, retK, dL, val, h1, h2]
    · repeat first
        | refine VS.seq ?_
        | (refine VS.keepAt 0 [0, 1] ?_; generalize hK : VS _ _ _ = KK; (try simp); (try subst hK); refine VS.region tabOk (id := 0) [] (by kernel_rfl) ?_; generalize hK : VS _ _ _ = KK; simp (maxSteps := 1000000) [hF, dL, h1, h2]; (try subst hK); try (refine VS.keep [0, 1] ?_; generalize hK : VS _ _ _ = KK; simp; (try subst hK)))
        | (refine VS.keepAt 1 [0, 1] ?_; generalize hK : VS _ _ _ = KK; (try simp); (try subst hK); refine VS.region tabOk (id := 1) [(2, 7), (6, 11)] (by kernel_rfl) ?_; generalize hK : VS _ _ _ = KK; simp (maxSteps := 1000000) [hF, dL, h1, h2]; (try subst hK); try (refine VS.keep [4] ?_; generalize hK : VS _ _ _ = KK; simp; (try subst hK)))
      try refine VS.ret ?_
      repeat first | refine blockN_ret ?_ | refine loopN_ret ?_
      refine endK.of [4] [0] [] (by simp [hF]) (by simp [covers, mpre]) ?_
      simp [hF, retK, dL, val, h1, h2]
  · repeat first
      | refine VS.seq ?_
      | (refine VS.keepAt 0 [0, 1] ?_; generalize hK : VS _ _ _ = KK; (try simp); (try subst hK); refine VS.region tabOk (id := 0) [] (by kernel_rfl) ?_; generalize hK : VS _ _ _ = KK; simp (maxSteps := 1000000) [hF, dL, h1]; (try subst hK); try (refine VS.keep [0, 1] ?_; generalize hK : VS _ _ _ = KK; simp; (try subst hK)))
      | (refine VS.keepAt 1 [0, 1] ?_; generalize hK : VS _ _ _ = KK; (try simp); (try subst hK); refine VS.region tabOk (id := 1) [(2, 7), (6, 11)] (by kernel_rfl) ?_; generalize hK : VS _ _ _ = KK; simp (maxSteps := 1000000) [hF, dL, h1]; (try subst hK); try (refine VS.keep [4] ?_; generalize hK : VS _ _ _ = KK; simp; (try subst hK)))
    try refine VS.ret ?_
    repeat first | refine blockN_ret ?_ | refine loopN_ret ?_
    refine endK.of [4] [0] [] (by simp [hF]) (by simp [covers, mpre]) ?_
    simp [hF, retK, dL, val, h1]

/- (*cabochon/lineage.Lineage).kind -/
theorem kind_ok (L : List Th) (hl : L.length ≤ 1000) (t k : Int) : Meets Try.prog 48 [dL L] (.cons (.ptr 0 [.d]) (.cons (avInt t) (.cons (avInt k) .nil))) fun av X κ => av = avBool (val L t && decide ((thAt L t).kind = k)) ∧ X = [dL L] ∧ κ = [] := by
  refine Meets.of_vs tabOk Try.func48 (body := ?_) ?_ (by kernel_rfl) Try.ntmps48 (rs := [.tmp 6]) (by kernel_rfl) rfl (by simp [AV.len]) (by simp only [envOf]; exact rfl) ?_
  rotate_left
  · rfl
  intro w0 I0 F0 hF
  repeat first
    | refine VS.seq ?_
    | (refine VS.keepAt 0 [0, 1, 2] ?_; generalize hK : VS _ _ _ = KK; (try simp); (try subst hK); refine VS.region tabOk (id := 0) [] (by kernel_rfl) ?_; generalize hK : VS _ _ _ = KK; simp (maxSteps := 1000000) [hF]; (try subst hK); try (refine VS.keep [0, 1, 2] ?_; generalize hK : VS _ _ _ = KK; simp; (try subst hK)))
    | (refine VS.keepAt 1 [0, 1, 2] ?_; generalize hK : VS _ _ _ = KK; (try simp); (try subst hK); refine VS.region tabOk (id := 1) [(3, 10)] (by kernel_rfl) ?_; generalize hK : VS _ _ _ = KK; simp (maxSteps := 1000000) [hF]; (try subst hK); try (refine VS.keep [6] ?_; generalize hK : VS _ _ _ = KK; simp; (try subst hK)))
  cases hv : val L t with
  | true =>
    obtain ⟨t, rfl, ht⟩ := val_nat hv
    have hn := dThs_nth ht
    have hth := thAt_eq ht
    refine (is_ok L hl t).call [(0, [])] (by simp) (by simp (maxSteps := 1000000) [hF, dL, dL, hv, hn, ht]) (by simp (maxSteps := 1000000) [hF, dL, dL, hv, hn, ht]) (by simp (maxSteps := 1000000) [hF, dL, dL, hv, hn, ht]) (by simp) ?_
    rintro av X κ ⟨rfl, rfl, rfl⟩
    generalize hK : VS _ _ _ = KK; simp (maxSteps := 1000000) [hF, dL, dL, hv, hn, ht]; (try subst hK)
    try refine VS.ret ?_
    repeat first | refine blockN_ret ?_ | refine loopN_ret ?_
    refine endK.of [6] [0] [] (by simp [hF]) (by simp [covers, mpre]) ?_
    simp [hF, retK, dL, hth]
  | false =>
    refine (is_ok L hl t).call [(0, [])] (by simp) (by simp (maxSteps := 1000000) [hF, dL, dL, hv]) (by simp (maxSteps := 1000000) [hF, dL, dL, hv]) (by simp (maxSteps := 1000000) [hF, dL, dL, hv]) (by simp) ?_
    rintro av X κ ⟨rfl, rfl, rfl⟩
    generalize hK : VS _ _ _ = KK; simp (maxSteps := 1000000) [hF, dL, dL, hv]; (try subst hK)
    try refine VS.ret ?_
    repeat first | refine blockN_ret ?_ | refine loopN_ret ?_
    refine endK.of [6] [0] [] (by simp [hF]) (by simp [covers, mpre]) ?_
    simp [hF, retK, dL]

/- (*cabochon/lineage.Lineage).room -/
theorem room_ok (L : List Th) (hl : L.length ≤ 1000) (n : Nat) (hn : n ≤ 10000) : Meets Try.prog 41 [dL L] (.cons (.ptr 0 [.d]) (.cons (avInt n) .nil)) fun av X κ => av = avInt (if 1000 < L.length + n then 9 else 0) ∧ X = [dL L] ∧ κ = [] := by
  have hw : IntKind.i64.wrap ((L.length : Int) + (n : Int)) = (L.length : Int) + n := IntWalk.i64_in _ (by omega)
  refine Meets.of_vs tabOk Try.func41 (body := ?_) ?_ (by kernel_rfl) Try.ntmps41 (rs := [.tmp 4]) (by kernel_rfl) rfl (by simp [AV.len]) (by simp only [envOf]; exact rfl) ?_
  rotate_left
  · rfl
  intro w0 I0 F0 hF
  by_cases h : 1000 < L.length + n
  · have h' : (1000 : Int) < (L.length : Int) + n := by omega
    repeat first
      | refine VS.seq ?_
      | (refine VS.keepAt 0 [0, 1] ?_; generalize hK : VS _ _ _ = KK; (try simp); (try subst hK); refine VS.region tabOk (id := 0) [] (by kernel_rfl) ?_; generalize hK : VS _ _ _ = KK; simp (maxSteps := 1000000) [hF, dL, hw, h']; (try subst hK); try (refine VS.keep [0, 1] ?_; generalize hK : VS _ _ _ = KK; simp; (try subst hK)))
      | (refine VS.keepAt 1 [0, 1] ?_; generalize hK : VS _ _ _ = KK; (try simp); (try subst hK); refine VS.region tabOk (id := 1) [] (by kernel_rfl) ?_; generalize hK : VS _ _ _ = KK; simp (maxSteps := 1000000) [hF, dL, hw, h']; (try subst hK); try (refine VS.keep [12] ?_; generalize hK : VS _ _ _ = KK; simp; (try subst hK)))
      | (refine VS.keepAt 2 [] ?_; generalize hK : VS _ _ _ = KK; (try simp); (try subst hK); refine VS.region tabOk (id := 2) [] (by kernel_rfl) ?_; generalize hK : VS _ _ _ = KK; simp (maxSteps := 1000000) [hF, dL, hw, h']; (try subst hK); try (refine VS.keep [4] ?_; generalize hK : VS _ _ _ = KK; simp; (try subst hK)))
      | (refine VS.cond ?_; generalize hK1 : VS _ _ _ = KK1; generalize hK2 : VS _ _ _ = KK2; simp (maxSteps := 1000000) [hF, dL, hw, h']; (try subst hK1); (try subst hK2))
    try refine VS.ret ?_
    repeat first | refine blockN_ret ?_ | refine loopN_ret ?_
    refine endK.of [4] [0] [] (by simp [hF]) (by simp [covers, mpre]) ?_
    simp [hF, retK, dL, h]
  · have h' : ¬ (1000 : Int) < (L.length : Int) + n := by omega
    repeat first
      | refine VS.seq ?_
      | refine VS.skip ?_
      | (refine VS.keepAt 0 [0, 1] ?_; generalize hK : VS _ _ _ = KK; (try simp); (try subst hK); refine VS.region tabOk (id := 0) [] (by kernel_rfl) ?_; generalize hK : VS _ _ _ = KK; simp (maxSteps := 1000000) [hF, dL, hw, h']; (try subst hK); try (refine VS.keep [0, 1] ?_; generalize hK : VS _ _ _ = KK; simp; (try subst hK)))
      | (refine VS.keepAt 1 [0, 1] ?_; generalize hK : VS _ _ _ = KK; (try simp); (try subst hK); refine VS.region tabOk (id := 1) [] (by kernel_rfl) ?_; generalize hK : VS _ _ _ = KK; simp (maxSteps := 1000000) [hF, dL, hw, h']; (try subst hK); try (refine VS.keep [12] ?_; generalize hK : VS _ _ _ = KK; simp; (try subst hK)))
      | (refine VS.keepAt 3 [] ?_; generalize hK : VS _ _ _ = KK; (try simp); (try subst hK); refine VS.region tabOk (id := 3) [] (by kernel_rfl) ?_; generalize hK : VS _ _ _ = KK; simp (maxSteps := 1000000) [hF, dL, hw, h']; (try subst hK); try (refine VS.keep [4] ?_; generalize hK : VS _ _ _ = KK; simp; (try subst hK)))
      | (refine VS.cond ?_; generalize hK1 : VS _ _ _ = KK1; generalize hK2 : VS _ _ _ = KK2; simp (maxSteps := 1000000) [hF, dL, hw, h']; (try subst hK1); (try subst hK2))
    try refine VS.ret ?_
    repeat first | refine blockN_ret ?_ | refine loopN_ret ?_
    refine endK.of [4] [0] [] (by simp [hF]) (by simp [covers, mpre]) ?_
    simp [hF, retK, dL, h]

/- (*cabochon/lineage.Lineage).order -/
theorem order_ok {L : List Th} (W : WFL L) (t : Nat) (ht : t < L.length) : Meets Try.prog 32 [dL L] (.cons (.ptr 0 [.d]) (.cons (avInt t) .nil))
    fun av X κ => av = .tup (.cons (.imm 1 (dInts (ordL L t)) false) (.cons (avBool true) .nil)) ∧ X = [dL L] ∧ κ = [] := by
  obtain ⟨r, B⟩ := W.base
  have ho := W.ord ht
  have hf := Meets.mono (find_ok B t ht [] (fun k o h => by cases h)) (R' := fun av X κ => ∃ M, av = .tup (.cons (.imm 1 (dInts (ordL L t)) false) (.cons (avBool true) .nil)) ∧ X = [dL L, dM M] ∧ κ = [(1, [.i 0])])
    fun av X κ ⟨M, _, h2, h3, h4⟩ => ⟨M, by rw [ho] at h4; exact h4, h2, h3⟩
  refine Meets.of_vs tabOk Try.func32 (body := ?_) ?_ (by kernel_rfl) Try.ntmps32 (rs := [.tmp 4, .tmp 5]) (by kernel_rfl) rfl (by simp [AV.len]) (by simp only [envOf]; exact rfl) ?_
  rotate_left
  · rfl
  intro w0 I0 F0 hF
  repeat first
    | refine VS.seq ?_
    | (refine VS.keepAt 0 [0, 1] ?_; generalize hK : VS _ _ _ = KK; (try simp); (try subst hK); refine VS.region tabOk (id := 0) [] (by kernel_rfl) ?_; generalize hK : VS _ _ _ = KK; simp (maxSteps := 1000000) [hF]; (try subst hK); try (refine VS.keep [0, 1] ?_; generalize hK : VS _ _ _ = KK; simp; (try subst hK)))
    | (refine VS.keepAt 1 [0, 1] ?_; generalize hK : VS _ _ _ = KK; (try simp); (try subst hK); refine VS.region tabOk (id := 1) [] (by kernel_rfl) ?_; generalize hK : VS _ _ _ = KK; simp (maxSteps := 1000000) [hF]; (try subst hK); try (refine VS.keep [4, 5] ?_; generalize hK : VS _ _ _ = KK; simp; (try subst hK)))
  refine (hf).call [(0, []), (1, [])] (by simp) (by simp (maxSteps := 1000000) [hF, dL, dM]) (by simp (maxSteps := 1000000) [hF, dL, dM]) (by simp (maxSteps := 1000000) [hF, dL, dM]) (by simp) ?_
  rintro av X κ ⟨M, rfl, rfl, rfl⟩
  generalize hK : VS _ _ _ = KK; simp (maxSteps := 1000000) [hF, dL, dM]; (try subst hK)
  try refine VS.ret ?_
  repeat first | refine blockN_ret ?_ | refine loopN_ret ?_
  refine endK.of [4, 5] [0] [] (by simp [hF]) (by simp [covers, mpre]) ?_
  simp [hF, retK, dL]

/- (*cabochon/lineage.Lineage).Order -/
theorem Order_yes {L : List Th} (W : WFL L) (t : Nat) (ht : t < L.length) : Meets Try.prog 13 [dL L] (.cons (.ptr 0 [.d]) (.cons (avInt t) .nil))
    fun av X κ => av = avTwo (.imm 1 (dInts (ordL L t)) false) 0 ∧ X = [dL L] ∧ κ = [] := by
  have hl : L.length ≤ 1000 := W.base.elim fun _ B => B.len
  have hv : val L t = true := by simp [val, ht]
  refine Meets.of_vs tabOk Try.func13 (body := ?_) ?_ (by kernel_rfl) Try.ntmps13 (rs := [.tmp 4, .tmp 5]) (by kernel_rfl) rfl (by simp [AV.len]) (by simp only [envOf]; exact rfl) ?_
  rotate_left
  · rfl
  intro w0 I0 F0 hF
  repeat first
    | refine VS.seq ?_
    | (refine VS.keepAt 0 [0, 1] ?_; generalize hK : VS _ _ _ = KK; (try simp); (try subst hK); refine VS.region tabOk (id := 0) [] (by kernel_rfl) ?_; generalize hK : VS _ _ _ = KK; simp (maxSteps := 1000000) [hF]; (try subst hK); try (refine VS.keep [0, 1] ?_; generalize hK : VS _ _ _ = KK; simp; (try subst hK)))
    | (refine VS.keepAt 1 [0, 1] ?_; generalize hK : VS _ _ _ = KK; (try simp); (try subst hK); refine VS.region tabOk (id := 1) [] (by kernel_rfl) ?_; generalize hK : VS _ _ _ = KK; simp (maxSteps := 1000000) [hF]; (try subst hK); try (refine VS.keep [0, 1, 11] ?_; generalize hK : VS _ _ _ = KK; simp; (try subst hK)))
  refine (is_ok L hl t).call [(0, [])] (by simp) (by simp (maxSteps := 1000000) [hF, dL, hv]) (by simp (maxSteps := 1000000) [hF, dL, hv]) (by simp (maxSteps := 1000000) [hF, dL, hv]) (by simp) ?_
  rintro av X κ ⟨rfl, rfl, rfl⟩
  generalize hK : VS _ _ _ = KK; simp (maxSteps := 1000000) [hF, dL, hv]; (try subst hK)
  repeat first
    | refine VS.seq ?_
    | refine VS.skip ?_
    | (refine VS.keepAt 3 [0, 1] ?_; generalize hK : VS _ _ _ = KK; (try simp); (try subst hK); refine VS.region tabOk (id := 3) [] (by kernel_rfl) ?_; generalize hK : VS _ _ _ = KK; simp (maxSteps := 1000000) [hF]; (try subst hK); try (refine VS.keep [6] ?_; generalize hK : VS _ _ _ = KK; simp; (try subst hK)))
    | (refine VS.cond ?_; generalize hK1 : VS _ _ _ = KK1; generalize hK2 : VS _ _ _ = KK2; simp (maxSteps := 1000000) [hF]; (try subst hK1); (try subst hK2))
  refine (order_ok W t ht).call [(0, [])] (by simp) (by simp (maxSteps := 1000000) [hF, dL]) (by simp (maxSteps := 1000000) [hF, dL]) (by simp (maxSteps := 1000000) [hF, dL]) (by simp) ?_
  rintro av X κ ⟨rfl, rfl, rfl⟩
  generalize hK : VS _ _ _ = KK; simp (maxSteps := 1000000) [hF, dL]; (try subst hK)
  repeat first
    | refine VS.seq ?_
    | (refine VS.keepAt 4 [6] ?_; generalize hK : VS _ _ _ = KK; (try simp); (try subst hK); refine VS.region tabOk (id := 4) [] (by kernel_rfl) ?_; generalize hK : VS _ _ _ = KK; simp (maxSteps := 1000000) [hF]; (try subst hK); try (refine VS.keep [4, 5] ?_; generalize hK : VS _ _ _ = KK; simp; (try subst hK)))
  try refine VS.ret ?_
  repeat first | refine blockN_ret ?_ | refine loopN_ret ?_
  refine endK.of [4, 5] [0] [] (by simp [hF]) (by simp [covers, mpre]) ?_
  simp [hF, retK, dL]
theorem Order_no {L : List Th} (hl : L.length ≤ 1000) (t : Int) (hv : val L t = false) : Meets Try.prog 13 [dL L] (.cons (.ptr 0 [.d]) (.cons (avInt t) .nil))
    fun av X κ => av = avTwo (.nils 1) 1 ∧ X = [dL L] ∧ κ = [] := by
  refine Meets.of_vs tabOk Try.func13 (body := ?_) ?_ (by kernel_rfl) Try.ntmps13 (rs := [.tmp 4, .tmp 5]) (by kernel_rfl) rfl (by simp [AV.len]) (by simp only [envOf]; exact rfl) ?_
  rotate_left
  · rfl
  intro w0 I0 F0 hF
  repeat first
    | refine VS.seq ?_
    | (refine VS.keepAt 0 [0, 1] ?_; generalize hK : VS _ _ _ = KK; (try simp); (try subst hK); refine VS.region tabOk (id := 0) [] (by kernel_rfl) ?_; generalize hK : VS _ _ _ = KK; simp (maxSteps := 1000000) [hF]; (try subst hK); try (refine VS.keep [0, 1] ?_; generalize hK : VS _ _ _ = KK; simp; (try subst hK)))
    | (refine VS.keepAt 1 [0, 1] ?_; generalize hK : VS _ _ _ = KK; (try simp); (try subst hK); refine VS.region tabOk (id := 1) [] (by kernel_rfl) ?_; generalize hK : VS _ _ _ = KK; simp (maxSteps := 1000000) [hF]; (try subst hK); try (refine VS.keep [0, 1, 11] ?_; generalize hK : VS _ _ _ = KK; simp; (try subst hK)))
  refine (is_ok L hl t).call [(0, [])] (by simp) (by simp (maxSteps := 1000000) [hF, dL, hv]) (by simp (maxSteps := 1000000) [hF, dL, hv]) (by simp (maxSteps := 1000000) [hF, dL, hv]) (by simp) ?_
  rintro av X κ ⟨rfl, rfl, rfl⟩
  generalize hK : VS _ _ _ = KK; simp (maxSteps := 1000000) [hF, dL, hv]; (try subst hK)
  repeat first
    | refine VS.seq ?_
    | (refine VS.keepAt 2 [] ?_; generalize hK : VS _ _ _ = KK; (try simp); (try subst hK); refine VS.region tabOk (id := 2) [] (by kernel_rfl) ?_; generalize hK : VS _ _ _ = KK; simp (maxSteps := 1000000) [hF]; (try subst hK); try (refine VS.keep [4, 5] ?_; generalize hK : VS _ _ _ = KK; simp; (try subst hK)))
    | (refine VS.cond ?_; generalize hK1 : VS _ _ _ = KK1; generalize hK2 : VS _ _ _ = KK2; simp (maxSteps := 1000000) [hF]; (try subst hK1); (try subst hK2))
  try refine VS.ret ?_
  repeat first | refine blockN_ret ?_ | refine loopN_ret ?_
  refine endK.of [4, 5] [0] [] (by simp [hF]) (by simp [covers, mpre]) ?_
  simp [hF, retK, dL]

/- (*cabochon/lineage.Lineage).Is -/
theorem Is_yes {L : List Th} (W : WFL L) (t : Nat) (ht : t < L.length) (u : Nat) (hu : u < L.length) : Meets Try.prog 28 [dL L] (.cons (.ptr 0 [.d]) (.cons (avInt t) (.cons (avInt u) .nil)))
    fun av X κ => av = avTwo (avBool (hasN (ordL L t) u)) 0 ∧ X = [dL L] ∧ κ = [] := by
  have hl : L.length ≤ 1000 := W.base.elim fun _ B => B.len
  have hol : (ordL L t).length ≤ 1000 := W.base.elim fun _ B => ord_len B ht (W.ord ht)
  have hv : val L t = true := by simp [val, ht]
  have hv2 : val L u = true := by simp [val, hu]
  refine Meets.of_vs tabOk Try.func28 (body := ?_) ?_ (by kernel_rfl) Try.ntmps28 (rs := [.tmp 6, .tmp 7]) (by kernel_rfl) rfl (by simp [AV.len]) (by simp only [envOf]; exact rfl) ?_
  rotate_left
  · rfl
  intro w0 I0 F0 hF
  repeat first
    | refine VS.seq ?_
    | (refine VS.keepAt 0 [0, 1, 2] ?_; generalize hK : VS _ _ _ = KK; (try simp); (try subst hK); refine VS.region tabOk (id := 0) [] (by kernel_rfl) ?_; generalize hK : VS _ _ _ = KK; simp (maxSteps := 1000000) [hF]; (try subst hK); try (refine VS.keep [0, 1, 2] ?_; generalize hK : VS _ _ _ = KK; simp; (try subst hK)))
    | (refine VS.keepAt 1 [0, 1, 2] ?_; generalize hK : VS _ _ _ = KK; (try simp); (try subst hK); refine VS.region tabOk (id := 1) [(4, 14)] (by kernel_rfl) ?_; generalize hK : VS _ _ _ = KK; simp (maxSteps := 1000000) [hF]; (try subst hK); try (refine VS.keep [0, 1, 2, 19] ?_; generalize hK : VS _ _ _ = KK; simp; (try subst hK)))
  refine (is_ok L hl t).call [(0, [])] (by simp) (by simp (maxSteps := 1000000) [hF, dL, hv]) (by simp (maxSteps := 1000000) [hF, dL, hv]) (by simp (maxSteps := 1000000) [hF, dL, hv]) (by simp) ?_
  rintro av X κ ⟨rfl, rfl, rfl⟩
  generalize hK : VS _ _ _ = KK; simp (maxSteps := 1000000) [hF, dL, hv]; (try subst hK)
  refine (is_ok L hl u).call [(0, [])] (by simp) (by simp (maxSteps := 1000000) [hF, dL, hv2]) (by simp (maxSteps := 1000000) [hF, dL, hv2]) (by simp (maxSteps := 1000000) [hF, dL, hv2]) (by simp) ?_
  rintro av X κ ⟨rfl, rfl, rfl⟩
  generalize hK : VS _ _ _ = KK; simp (maxSteps := 1000000) [hF, dL, hv2]; (try subst hK)
  repeat first
    | refine VS.seq ?_
    | refine VS.skip ?_
    | (refine VS.keepAt 3 [0, 1, 2] ?_; generalize hK : VS _ _ _ = KK; (try simp); (try subst hK); refine VS.region tabOk (id := 3) [] (by kernel_rfl) ?_; generalize hK : VS _ _ _ = KK; simp (maxSteps := 1000000) [hF]; (try subst hK); try (refine VS.keep [2, 8] ?_; generalize hK : VS _ _ _ = KK; simp; (try subst hK)))
    | (refine VS.cond ?_; generalize hK1 : VS _ _ _ = KK1; generalize hK2 : VS _ _ _ = KK2; simp (maxSteps := 1000000) [hF]; (try subst hK1); (try subst hK2))
  refine (order_ok W t ht).call [(0, [])] (by simp) (by simp (maxSteps := 1000000) [hF, dL]) (by simp (maxSteps := 1000000) [hF, dL]) (by simp (maxSteps := 1000000) [hF, dL]) (by simp) ?_
  rintro av X κ ⟨rfl, rfl, rfl⟩
  generalize hK : VS _ _ _ = KK; simp (maxSteps := 1000000) [hF, dL]; (try subst hK)
  repeat first
    | refine VS.seq ?_
    | (refine VS.keepAt 4 [2, 8] ?_; generalize hK : VS _ _ _ = KK; (try simp); (try subst hK); refine VS.region tabOk (id := 4) [] (by kernel_rfl) ?_; generalize hK : VS _ _ _ = KK; simp (maxSteps := 1000000) [hF]; (try subst hK); try (refine VS.keep [6, 7] ?_; generalize hK : VS _ _ _ = KK; simp; (try subst hK)))
  refine (contains_ok false (ordL L t) u (by omega)).call [] (by simp) (by simp (maxSteps := 1000000) [hF]) (by simp (maxSteps := 1000000) [hF]) (by simp (maxSteps := 1000000) [hF]) (by simp) ?_
  rintro av X κ ⟨rfl, rfl, rfl⟩
  generalize hK : VS _ _ _ = KK; simp (maxSteps := 1000000) [hF]; (try subst hK)
  try refine VS.ret ?_
  repeat first | refine blockN_ret ?_ | refine loopN_ret ?_
  refine endK.of [6, 7] [0] [] (by simp [hF]) (by simp [covers, mpre]) ?_
  simp [hF, retK, dL]

/- (*cabochon/lineage.Lineage).Super -/
theorem Super_yes {L : List Th} (hl : L.length ≤ 1000) (t : Nat) (ht : t < L.length) : Meets Try.prog 20 [dL L] (.cons (.ptr 0 [.d]) (.cons (avInt t) .nil))
    fun av X κ => av = avTwo (avInt (L[t]).sup) 0 ∧ X = [dL L] ∧ κ = [] := by
  have hv : val L t = true := by simp [val, ht]
  have hn := dThs_nth ht
  refine Meets.of_vs tabOk Try.func20 (body := ?_) ?_ (by kernel_rfl) Try.ntmps20 (rs := [.tmp 4, .tmp 5]) (by kernel_rfl) rfl (by simp [AV.len]) (by simp only [envOf]; exact rfl) ?_
  rotate_left
  · rfl
  intro w0 I0 F0 hF
  repeat first
    | refine VS.seq ?_
    | (refine VS.keepAt 0 [0, 1] ?_; generalize hK : VS _ _ _ = KK; (try simp); (try subst hK); refine VS.region tabOk (id := 0) [] (by kernel_rfl) ?_; generalize hK : VS _ _ _ = KK; simp (maxSteps := 1000000) [hF]; (try subst hK); try (refine VS.keep [0, 1] ?_; generalize hK : VS _ _ _ = KK; simp; (try subst hK)))
    | (refine VS.keepAt 1 [0, 1] ?_; generalize hK : VS _ _ _ = KK; (try simp); (try subst hK); refine VS.region tabOk (id := 1) [] (by kernel_rfl) ?_; generalize hK : VS _ _ _ = KK; simp (maxSteps := 1000000) [hF]; (try subst hK); try (refine VS.keep [0, 1, 9] ?_; generalize hK : VS _ _ _ = KK; simp; (try subst hK)))
  refine (is_ok L hl t).call [(0, [])] (by simp) (by simp (maxSteps := 1000000) [hF, dL, hv]) (by simp (maxSteps := 1000000) [hF, dL, hv]) (by simp (maxSteps := 1000000) [hF, dL, hv]) (by simp) ?_
  rintro av X κ ⟨rfl, rfl, rfl⟩
  generalize hK : VS _ _ _ = KK; simp (maxSteps := 1000000) [hF, dL, hv]; (try subst hK)
  repeat first
    | refine VS.seq ?_
    | refine VS.skip ?_
    | (refine VS.keepAt 3 [0, 1] ?_; generalize hK : VS _ _ _ = KK; (try simp); (try subst hK); refine VS.region tabOk (id := 3) [] (by kernel_rfl) ?_; generalize hK : VS _ _ _ = KK; simp (maxSteps := 1000000) [hF, dL, hn, ht]; (try subst hK); try (refine VS.keep [4, 5] ?_; generalize hK : VS _ _ _ = KK; simp; (try subst hK)))
    | (refine VS.cond ?_; generalize hK1 : VS _ _ _ = KK1; generalize hK2 : VS _ _ _ = KK2; simp (maxSteps := 1000000) [hF, dL, hn, ht]; (try subst hK1); (try subst hK2))
  try refine VS.ret ?_
  repeat first | refine blockN_ret ?_ | refine loopN_ret ?_
  refine endK.of [4, 5] [0] [] (by simp [hF]) (by simp [covers, mpre]) ?_
  simp [hF, retK, dL]

/- (*cabochon/lineage.Lineage).Kind -/
theorem Kind_yes {L : List Th} (hl : L.length ≤ 1000) (t : Nat) (ht : t < L.length) : Meets Try.prog 26 [dL L] (.cons (.ptr 0 [.d]) (.cons (avInt t) .nil))
    fun av X κ => av = avTwo (avInt (L[t]).kind) 0 ∧ X = [dL L] ∧ κ = [] := by
  have hv : val L t = true := by simp [val, ht]
  have hn := dThs_nth ht
  refine Meets.of_vs tabOk Try.func26 (body := ?_) ?_ (by kernel_rfl) Try.ntmps26 (rs := [.tmp 4, .tmp 5]) (by kernel_rfl) rfl (by simp [AV.len]) (by simp only [envOf]; exact rfl) ?_
  rotate_left
  · rfl
  intro w0 I0 F0 hF
  repeat first
    | refine VS.seq ?_
    | (refine VS.keepAt 0 [0, 1] ?_; generalize hK : VS _ _ _ = KK; (try simp); (try subst hK); refine VS.region tabOk (id := 0) [] (by kernel_rfl) ?_; generalize hK : VS _ _ _ = KK; simp (maxSteps := 1000000) [hF]; (try subst hK); try (refine VS.keep [0, 1] ?_; generalize hK : VS _ _ _ = KK; simp; (try subst hK)))
    | (refine VS.keepAt 1 [0, 1] ?_; generalize hK : VS _ _ _ = KK; (try simp); (try subst hK); refine VS.region tabOk (id := 1) [] (by kernel_rfl) ?_; generalize hK : VS _ _ _ = KK; simp (maxSteps := 1000000) [hF]; (try subst hK); try (refine VS.keep [0, 1, 9] ?_; generalize hK : VS _ _ _ = KK; simp; (try subst hK)))
  refine (is_ok L hl t).call [(0, [])] (by simp) (by simp (maxSteps := 1000000) [hF, dL, hv]) (by simp (maxSteps := 1000000) [hF, dL, hv]) (by simp (maxSteps := 1000000) [hF, dL, hv]) (by simp) ?_
  rintro av X κ ⟨rfl, rfl, rfl⟩
  generalize hK : VS _ _ _ = KK; simp (maxSteps := 1000000) [hF, dL, hv]; (try subst hK)
  repeat first
    | refine VS.seq ?_
    | refine VS.skip ?_
    | (refine VS.keepAt 3 [0, 1] ?_; generalize hK : VS _ _ _ = KK; (try simp); (try subst hK); refine VS.region tabOk (id := 3) [] (by kernel_rfl) ?_; generalize hK : VS _ _ _ = KK; simp (maxSteps := 1000000) [hF, dL, hn, ht]; (try subst hK); try (refine VS.keep [4, 5] ?_; generalize hK : VS _ _ _ = KK; simp; (try subst hK)))
    | (refine VS.cond ?_; generalize hK1 : VS _ _ _ = KK1; generalize hK2 : VS _ _ _ = KK2; simp (maxSteps := 1000000) [hF, dL, hn, ht]; (try subst hK1); (try subst hK2))
  try refine VS.ret ?_
  repeat first | refine blockN_ret ?_ | refine loopN_ret ?_
  refine endK.of [4, 5] [0] [] (by simp [hF]) (by simp [covers, mpre]) ?_
  simp [hF, retK, dL]
end Go.Proofs.Ytahgopdamgagkaa

/- Behind and Below. -/
namespace Go.Proofs.Ytahgopdamgagkaa
set_option linter.all false
open Go.Vc Go.Proofs
set_option linter.unusedSimpArgs false
set_option linter.unusedVariables false
set_option maxRecDepth 100000
set_option maxHeartbeats 4000000
attribute [local irreducible] CallW EqK

/-- What stands behind the first of its like. -/
def behindOf : List Int → Int → List Int
  | [], _ => []
  | x :: l, c => if x = c then l else behindOf l c
theorem behindOf_none {c : Int} : ∀ {l : List Int}, c ∉ l → behindOf l c = []
  | [], _ => rfl
  | x :: l, h => by
    unfold behindOf
    rw [if_neg (fun e => h (by simp [e])), behindOf_none fun hm => h (List.mem_cons_of_mem _ hm)]
theorem behindOf_at {c : Int} : ∀ {l : List Int} {i : Nat} (h : i < l.length), l[i] = c → (∀ j, (hj : j < i) → ¬ l[j]'(by omega) = c) → behindOf l c = l.drop (i + 1)
  | x :: l, 0, _, he, _ => by
    unfold behindOf
    rw [if_pos (by simpa using he)]; rfl
  | x :: l, i + 1, h, he, hall => by
    unfold behindOf
    rw [if_neg (by simpa using hall 0 (by omega)), behindOf_at (l := l) (i := i) (by simpa using h) (by simpa using he) (fun j hj => by simpa using hall (j + 1) (by omega))]
    rfl

/- (*cabochon/lineage.Lineage).Behind -/
theorem Behind_yes {L : List Th} (W : WFL L) (t : Nat) (ht : t < L.length) (u : Nat) (hu : u < L.length) : Meets Try.prog 29 [dL L] (.cons (.ptr 0 [.d]) (.cons (avInt t) (.cons (avInt u) .nil)))
    fun av X κ => av = avTwo (.imm 1 (dInts (behindOf (ordL L t) u)) false) 0 ∧ X = [dL L] ∧ κ = [] := by
  have hl : L.length ≤ 1000 := W.base.elim fun _ B => B.len
  have hol : (ordL L t).length ≤ 1000 := W.base.elim fun _ B => ord_len B ht (W.ord ht)
  have hv : val L t = true := by simp [val, ht]
  have hv2 : val L u = true := by simp [val, hu]
  refine Meets.of_vs tabOk Try.func29 (body := ?_) ?_ (by kernel_rfl) Try.ntmps29 (rs := [.tmp 6, .tmp 7]) (by kernel_rfl) rfl (by simp [AV.len]) (by simp only [envOf]; exact rfl) ?_
  rotate_left
  · rfl
  intro w0 I0 F0 hF
  repeat first
    | refine VS.seq ?_
    | (refine VS.keepAt 0 [0, 1, 2] ?_; generalize hK : VS _ _ _ = KK; (try simp); (try subst hK); refine VS.region tabOk (id := 0) [] (by kernel_rfl) ?_; generalize hK : VS _ _ _ = KK; simp (maxSteps := 1000000) [hF]; (try subst hK); try (refine VS.keep [0, 1, 2] ?_; generalize hK : VS _ _ _ = KK; simp; (try subst hK)))
    | (refine VS.keepAt 1 [0, 1, 2] ?_; generalize hK : VS _ _ _ = KK; (try simp); (try subst hK); refine VS.region tabOk (id := 1) [(4, 15)] (by kernel_rfl) ?_; generalize hK : VS _ _ _ = KK; simp (maxSteps := 1000000) [hF]; (try subst hK); try (refine VS.keep [0, 1, 2, 20] ?_; generalize hK : VS _ _ _ = KK; simp; (try subst hK)))
  refine (is_ok L hl t).call [(0, [])] (by simp) (by simp (maxSteps := 1000000) [hF, dL, hv]) (by simp (maxSteps := 1000000) [hF, dL, hv]) (by simp (maxSteps := 1000000) [hF, dL, hv]) (by simp) ?_
  rintro av X κ ⟨rfl, rfl, rfl⟩
  generalize hK : VS _ _ _ = KK; simp (maxSteps := 1000000) [hF, dL, hv]; (try subst hK)
  refine (is_ok L hl u).call [(0, [])] (by simp) (by simp (maxSteps := 1000000) [hF, dL, hv2]) (by simp (maxSteps := 1000000) [hF, dL, hv2]) (by simp (maxSteps := 1000000) [hF, dL, hv2]) (by simp) ?_
  rintro av X κ ⟨rfl, rfl, rfl⟩
  generalize hK : VS _ _ _ = KK; simp (maxSteps := 1000000) [hF, dL, hv2]; (try subst hK)
  repeat first
    | refine VS.seq ?_
    | refine VS.skip ?_
    | (refine VS.keepAt 3 [0, 1, 2] ?_; generalize hK : VS _ _ _ = KK; (try simp); (try subst hK); refine VS.region tabOk (id := 3) [] (by kernel_rfl) ?_; generalize hK : VS _ _ _ = KK; simp (maxSteps := 1000000) [hF]; (try subst hK); try (refine VS.keep [2, 8] ?_; generalize hK : VS _ _ _ = KK; simp; (try subst hK)))
    | (refine VS.cond ?_; generalize hK1 : VS _ _ _ = KK1; generalize hK2 : VS _ _ _ = KK2; simp (maxSteps := 1000000) [hF]; (try subst hK1); (try subst hK2))
  refine (order_ok W t ht).call [(0, [])] (by simp) (by simp (maxSteps := 1000000) [hF, dL]) (by simp (maxSteps := 1000000) [hF, dL]) (by simp (maxSteps := 1000000) [hF, dL]) (by simp) ?_
  rintro av X κ ⟨rfl, rfl, rfl⟩
  generalize hK : VS _ _ _ = KK; simp (maxSteps := 1000000) [hF, dL]; (try subst hK)
  repeat first
    | refine VS.seq ?_
    | (refine VS.keepAt 4 [2, 8] ?_; generalize hK : VS _ _ _ = KK; (try simp); (try subst hK); refine VS.region tabOk (id := 4) [] (by kernel_rfl) ?_; generalize hK : VS _ _ _ = KK; simp (maxSteps := 1000000) [hF]; (try subst hK); try (refine VS.keep [8, 10] ?_; generalize hK : VS _ _ _ = KK; simp; (try subst hK)))
  refine (index_ok false (ordL L t) u (by omega)).call [] (by simp) (by simp (maxSteps := 1000000) [hF]) (by simp (maxSteps := 1000000) [hF]) (by simp (maxSteps := 1000000) [hF]) (by simp) ?_
  rintro av X κ ⟨rfl, rfl, rfl⟩
  generalize hK : VS _ _ _ = KK; simp (maxSteps := 1000000) [hF]; (try subst hK)
  by_cases hm : ixF (fun x => decide (x = (u : Int))) (ordL L t) = -1
  · have hb : behindOf (ordL L t) u = [] := behindOf_none fun hmem => by
      have := ixF_none hm
      rw [List.filter_eq_self] at this
      have := this _ hmem
      simp at this
    repeat first
      | refine VS.seq ?_
      | (refine VS.keepAt 5 [8, 10] ?_; generalize hK : VS _ _ _ = KK; (try simp); (try subst hK); refine VS.region tabOk (id := 5) [] (by kernel_rfl) ?_; generalize hK : VS _ _ _ = KK; simp (maxSteps := 1000000) [hF, hm]; (try subst hK); try (refine VS.keep [8, 10, 31] ?_; generalize hK : VS _ _ _ = KK; simp; (try subst hK)))
      | (refine VS.keepAt 6 [] ?_; generalize hK : VS _ _ _ = KK; (try simp); (try subst hK); refine VS.region tabOk (id := 6) [] (by kernel_rfl) ?_; generalize hK : VS _ _ _ = KK; simp (maxSteps := 1000000) [hF, hm]; (try subst hK); try (refine VS.keep [6, 7] ?_; generalize hK : VS _ _ _ = KK; simp; (try subst hK)))
      | (refine VS.cond ?_; generalize hK1 : VS _ _ _ = KK1; generalize hK2 : VS _ _ _ = KK2; simp (maxSteps := 1000000) [hF, hm]; (try subst hK1); (try subst hK2))
    refine VS.chill 6 ?_
    generalize hK : VS _ _ _ = KK; simp [hF, St.chill]; (try subst hK)
    try refine VS.ret ?_
    repeat first | refine blockN_ret ?_ | refine loopN_ret ?_
    refine endK.of [6, 7] [0] [] (by simp [hF]) (by simp [covers, mpre]) ?_
    simp [hF, retK, dL, hb]
  · obtain ⟨i, hi, he, hp, hall⟩ := ixF_some hm
    have hb : behindOf (ordL L t) u = (ordL L t).drop (i + 1) := behindOf_at hi (by simpa using hp) (fun j hj => by simpa using hall j hj)
    have hneg : ¬ (i : Int) < 0 := by omega
    have hw : IntKind.i64.wrap ((i : Int) + 1) = (i : Int) + 1 := IntWalk.i64_in _ (by omega)
    have h1 : (i : Int) + 1 ≤ (ordL L t).length := by omega
    have h2 : 0 ≤ (i : Int) + 1 := by omega
    have h3 : ((i : Int) + 1).toNat = i + 1 := by omega
    have h4 : i + 1 ≤ (ordL L t).length := hi
    have hmid : (dInts (ordL L t)).mid (i + 1) ((ordL L t).length - (i + 1)) = dInts ((ordL L t).drop (i + 1)) := by
      rw [dInts_mid, List.take_of_length_le (by simp)]
    repeat first
      | refine VS.seq ?_
      | refine VS.skip ?_
      | (refine VS.keepAt 5 [8, 10] ?_; generalize hK : VS _ _ _ = KK; (try simp); (try subst hK); refine VS.region tabOk (id := 5) [] (by kernel_rfl) ?_; generalize hK : VS _ _ _ = KK; simp (maxSteps := 1000000) [hF, he, hneg, hw, h1, h2, h3, h4, hmid]; (try subst hK); try (refine VS.keep [8, 10, 31] ?_; generalize hK : VS _ _ _ = KK; simp; (try subst hK)))
      | (refine VS.keepAt 7 [8, 10] ?_; generalize hK : VS _ _ _ = KK; (try simp); (try subst hK); refine VS.region tabOk (id := 7) [] (by kernel_rfl) ?_; generalize hK : VS _ _ _ = KK; simp (maxSteps := 1000000) [hF, he, hneg, hw, h1, h2, h3, h4, hmid]; (try subst hK); try (refine VS.keep [6, 7] ?_; generalize hK : VS _ _ _ = KK; simp; (try subst hK)))
      | (refine VS.cond ?_; generalize hK1 : VS _ _ _ = KK1; generalize hK2 : VS _ _ _ = KK2; simp (maxSteps := 1000000) [hF, he, hneg, hw, h1, h2, h3, h4, hmid]; (try subst hK1); (try subst hK2))
    try refine VS.ret ?_
    repeat first | refine blockN_ret ?_ | refine loopN_ret ?_
    refine endK.of [6, 7] [0] [] (by simp [hF]) (by simp [covers, mpre]) ?_
    simp [hF, retK, dL, hb]

/-- The things in whose order one stands. -/
noncomputable def belowTo (L : List Th) (t : Int) (n : Nat) : List Int := ((List.range n).filter fun k : Nat => hasN (ordL L (k : Int)) t).map fun k : Nat => (k : Int)
theorem belowTo_succ (L : List Th) (t : Int) (n : Nat) : belowTo L t (n + 1) = if hasN (ordL L n) t = true then belowTo L t n ++ [(n : Int)] else belowTo L t n := by
  unfold belowTo
  rw [List.range_succ, List.filter_append, List.map_append]
  split <;> simp_all
theorem belowTo_len (L : List Th) (t : Int) (n : Nat) : (belowTo L t n).length ≤ n := by
  unfold belowTo
  rw [List.length_map]
  exact Nat.le_trans (List.length_filter_le _ _) (by simp)

/- (*cabochon/lineage.Lineage).Below -/
theorem Below_yes {L : List Th} (W : WFL L) (t : Nat) (ht : t < L.length) : Meets Try.prog 27 [dL L] (.cons (.ptr 0 [.d]) (.cons (avInt t) .nil))
    fun av X κ => av = avTwo (.imm 1 (dInts (belowTo L t L.length)) false) 0 ∧ X = [dL L] ∧ κ = [] := by
  have hl : L.length ≤ 1000 := W.base.elim fun _ B => B.len
  have hv : val L t = true := by simp [val, ht]
  obtain ⟨r, B⟩ := W.base
  refine Meets.of_vs tabOk Try.func27 (body := ?_) ?_ (by kernel_rfl) Try.ntmps27 (rs := [.tmp 4, .tmp 5]) (by kernel_rfl) rfl (by simp [AV.len]) (by simp only [envOf]; exact rfl) ?_
  rotate_left
  · rfl
  intro w0 I0 F0 hF
  repeat first
    | refine VS.seq ?_
    | (refine VS.keepAt 0 [0, 1] ?_; generalize hK : VS _ _ _ = KK; (try simp); (try subst hK); refine VS.region tabOk (id := 0) [] (by kernel_rfl) ?_; generalize hK : VS _ _ _ = KK; simp (maxSteps := 1000000) [hF]; (try subst hK); try (refine VS.keep [0, 1] ?_; generalize hK : VS _ _ _ = KK; simp; (try subst hK)))
    | (refine VS.keepAt 1 [0, 1] ?_; generalize hK : VS _ _ _ = KK; (try simp); (try subst hK); refine VS.region tabOk (id := 1) [] (by kernel_rfl) ?_; generalize hK : VS _ _ _ = KK; simp (maxSteps := 1000000) [hF]; (try subst hK); try (refine VS.keep [0, 1, 14] ?_; generalize hK : VS _ _ _ = KK; simp; (try subst hK)))
  refine (is_ok L hl t).call [(0, [])] (by simp) (by simp (maxSteps := 1000000) [hF, dL, hv]) (by simp (maxSteps := 1000000) [hF, dL, hv]) (by simp (maxSteps := 1000000) [hF, dL, hv]) (by simp) ?_
  rintro av X κ ⟨rfl, rfl, rfl⟩
  generalize hK : VS _ _ _ = KK; simp (maxSteps := 1000000) [hF, dL, hv]; (try subst hK)
  repeat first
    | refine VS.seq ?_
    | refine VS.skip ?_
    | refine VS.block ?_
    | (refine VS.keepAt 3 [0, 1] ?_; generalize hK : VS _ _ _ = KK; (try simp); (try subst hK); refine VS.region tabOk (id := 3) [] (by kernel_rfl) ?_; generalize hK : VS _ _ _ = KK; simp (maxSteps := 1000000) [hF]; (try subst hK); try (refine VS.keep [0, 1, 6] ?_; generalize hK : VS _ _ _ = KK; simp; (try subst hK)))
    | (refine VS.keepAt 4 [0, 1, 6] ?_; generalize hK : VS _ _ _ = KK; (try simp); (try subst hK); refine VS.region tabOk (id := 4) [] (by kernel_rfl) ?_; generalize hK : VS _ _ _ = KK; simp (maxSteps := 1000000) [hF]; (try subst hK); try (refine VS.keep [0, 1, 6, 7] ?_; generalize hK : VS _ _ _ = KK; simp; (try subst hK)))
    | (refine VS.keepAt 5 [0, 1, 6, 7] ?_; generalize hK : VS _ _ _ = KK; (try simp); (try subst hK); refine VS.region tabOk (id := 5) [] (by kernel_rfl) ?_; generalize hK : VS _ _ _ = KK; simp (maxSteps := 1000000) [hF]; (try subst hK); try (refine VS.keep [0, 1, 6, 7, 20, 21] ?_; generalize hK : VS _ _ _ = KK; simp; (try subst hK)))
    | (refine VS.cond ?_; generalize hK1 : VS _ _ _ = KK1; generalize hK2 : VS _ _ _ = KK2; simp (maxSteps := 1000000) [hF]; (try subst hK1); (try subst hK2))
  refine VS.hold0 6 1 (by simp) ?_
  refine VS.pick [0, 1, 6, 7, 20, 21] [0, 1, 2] (by simp [hF]) ?_
  generalize hK : VS _ _ _ = KK; simp [hF]; (try subst hK)
  refine VS.rounds (fun m st => ∃ (i : Nat) (M : List (Int × List Int)), i + m = L.length ∧ MemoOk L M ∧ st = ⟨[(0, .ptr 0 [.d]), (1, avInt t), (6, .sub 2 [] 0 (belowTo L t i).length false), (7, .mp 1 []), (20, avInt L.length), (21, avInt i)],
    [dL L, dM M, .sl true () 1 (dInts (belowTo L t i))], [], []⟩) ⟨L.length, 0, [], by omega, (fun k o h => by cases h), by simp [dL, dM, belowTo]⟩ ?_
  rintro m st ⟨i, M, hi, hM, rfl⟩
  repeat first
    | refine VS.seq ?_
    | (refine VS.keepAt 6 [0, 1, 6, 7, 20, 21] ?_; generalize hK : VS _ _ _ = KK; (try simp); (try subst hK); refine VS.region tabOk (id := 6) [] (by kernel_rfl) ?_; generalize hK : VS _ _ _ = KK; simp (maxSteps := 1000000) [hF]; (try subst hK); try (refine VS.keep [0, 1, 6, 7, 20, 21, 22] ?_; generalize hK : VS _ _ _ = KK; simp; (try subst hK)))
    | (refine VS.cond ?_; generalize hK1 : VS _ _ _ = KK1; generalize hK2 : VS _ _ _ = KK2; simp (maxSteps := 1000000) [hF]; (try subst hK1); (try subst hK2))
  refine ⟨fun hlt => ?_, fun hge => ?_⟩
  · have hil : i < L.length := by omega
    have ho := W.ord hil
    have hol := ord_len B hil ho
    have hf := Meets.mono (find_ok B i hil M hM) (R' := fun av X κ => ∃ M, MemoOk L M ∧ av = .tup (.cons (.imm 1 (dInts (ordL L i)) false) (.cons (avBool true) .nil)) ∧ X = [dL L, dM M] ∧ κ = [(1, [.i 0])])
      fun av X κ ⟨M, h1, h2, h3, h4⟩ => ⟨M, h1, by rw [ho] at h4; exact h4, h2, h3⟩
    have hbs := belowTo_succ L t i
    have hbl := belowTo_len L t i
    have happ := dInts_app1 (belowTo L t i) i
    have b1 : ((belowTo L t i).length + 1) * 8 ≤ 140737488355328 := by omega
    have b2 : (belowTo L t i).length + 1 ≤ 9223372036854775807 := by omega
    repeat first
      | refine VS.seq ?_
      | refine VS.skip ?_
      | refine VS.block ?_
      | (refine VS.keepAt 7 [0, 1, 6, 7, 20, 21] ?_; generalize hK : VS _ _ _ = KK; (try simp); (try subst hK); refine VS.region tabOk (id := 7) [] (by kernel_rfl) ?_; generalize hK : VS _ _ _ = KK; simp (maxSteps := 1000000) [hF]; (try subst hK); try (refine VS.keep [0, 1, 6, 7, 8, 20, 21] ?_; generalize hK : VS _ _ _ = KK; simp; (try subst hK)))
      | (refine VS.keepAt 8 [0, 1, 6, 7, 8, 20, 21] ?_; generalize hK : VS _ _ _ = KK; (try simp); (try subst hK); refine VS.region tabOk (id := 8) [] (by kernel_rfl) ?_; generalize hK : VS _ _ _ = KK; simp (maxSteps := 1000000) [hF]; (try subst hK); try (refine VS.keep [0, 1, 6, 7, 8, 9, 20, 21] ?_; generalize hK : VS _ _ _ = KK; simp; (try subst hK)))
    refine (hf).call [(0, []), (1, [])] (by simp) (by simp (maxSteps := 1000000) [hF, dL, dM]) (by simp (maxSteps := 1000000) [hF, dL, dM]) (by simp (maxSteps := 1000000) [hF, dL, dM]) (by simp) ?_
    rintro av X κ ⟨M, hM, rfl, rfl, rfl⟩
    generalize hK : VS _ _ _ = KK; simp (maxSteps := 1000000) [hF, dL, dM]; (try subst hK)
    repeat first
      | refine VS.seq ?_
      | (refine VS.keepAt 9 [0, 1, 6, 7, 8, 9, 20, 21] ?_; generalize hK : VS _ _ _ = KK; (try simp); (try subst hK); refine VS.region tabOk (id := 9) [] (by kernel_rfl) ?_; generalize hK : VS _ _ _ = KK; simp (maxSteps := 1000000) [hF]; (try subst hK); try (refine VS.keep [0, 1, 6, 7, 8, 20, 21, 33] ?_; generalize hK : VS _ _ _ = KK; simp; (try subst hK)))
    refine (contains_ok false (ordL L i) t (by omega)).call [] (by simp) (by simp (maxSteps := 1000000) [hF]) (by simp (maxSteps := 1000000) [hF]) (by simp (maxSteps := 1000000) [hF]) (by simp) ?_
    rintro av X κ ⟨rfl, rfl, rfl⟩
    generalize hK : VS _ _ _ = KK; simp (maxSteps := 1000000) [hF]; (try subst hK)
    cases hh : hasN (ordL L i) t with
    | true =>
      rw [if_pos hh] at hbs
      repeat first
        | refine VS.nil ?_
        | refine blockN_normal ?_
        | refine loopN_normal ?_
        | (refine VS.keepAt 10 [0, 1, 6, 7, 8, 20, 21] ?_; generalize hK : VS _ _ _ = KK; (try simp); (try subst hK); refine VS.region tabOk (id := 10) [] (by kernel_rfl) ?_; generalize hK : VS _ _ _ = KK; simp (maxSteps := 1000000) [hF, hh, happ, b1, b2]; (try subst hK); try (refine VS.keep [0, 1, 6, 7, 20, 21] ?_; generalize hK : VS _ _ _ = KK; simp; (try subst hK)))
        | (refine VS.keepAt 11 [0, 1, 6, 7, 20, 21] ?_; generalize hK : VS _ _ _ = KK; (try simp); (try subst hK); refine VS.region tabOk (id := 11) [] (by kernel_rfl) ?_; generalize hK : VS _ _ _ = KK; simp (maxSteps := 1000000) [hF, hh, happ, b1, b2]; (try subst hK); try (refine VS.keep [0, 1, 6, 7, 20, 21] ?_; generalize hK : VS _ _ _ = KK; simp; (try subst hK)))
        | (refine VS.cond ?_; generalize hK1 : VS _ _ _ = KK1; generalize hK2 : VS _ _ _ = KK2; simp (maxSteps := 1000000) [hF, hh, happ, b1, b2]; (try subst hK1); (try subst hK2))
      refine nextK.of [0, 1, 6, 7, 20, 21] [0, 1, 2] (m - 1) (by omega) (by simp [hF]) ?_
      refine ⟨i + 1, M, by omega, hM, ?_⟩
      simp [hbs, dL, dM]
      exact IntWalk.i64_in _ (by omega)
    | false =>
      rw [if_neg (by simp [hh])] at hbs
      repeat first
        | refine VS.skip ?_
        | refine VS.nil ?_
        | refine blockN_normal ?_
        | refine loopN_normal ?_
        | (refine VS.keepAt 11 [0, 1, 6, 7, 20, 21] ?_; generalize hK : VS _ _ _ = KK; (try simp); (try subst hK); refine VS.region tabOk (id := 11) [] (by kernel_rfl) ?_; generalize hK : VS _ _ _ = KK; simp (maxSteps := 1000000) [hF, hh]; (try subst hK); try (refine VS.keep [0, 1, 6, 7, 20, 21] ?_; generalize hK : VS _ _ _ = KK; simp; (try subst hK)))
        | (refine VS.cond ?_; generalize hK1 : VS _ _ _ = KK1; generalize hK2 : VS _ _ _ = KK2; simp (maxSteps := 1000000) [hF, hh]; (try subst hK1); (try subst hK2))
      refine nextK.of [0, 1, 6, 7, 20, 21] [0, 1, 2] (m - 1) (by omega) (by simp [hF]) ?_
      refine ⟨i + 1, M, by omega, hM, ?_⟩
      simp [hbs, dL, dM]
      exact IntWalk.i64_in _ (by omega)
  · obtain rfl : i = L.length := by omega
    repeat first
      | refine VS.seq ?_
      | refine VS.exit ?_
      | (refine VS.keepAt 12 [6] ?_; generalize hK : VS _ _ _ = KK; (try simp); (try subst hK); refine VS.region tabOk (id := 12) [] (by kernel_rfl) ?_; generalize hK : VS _ _ _ = KK; simp (maxSteps := 1000000) [hF]; (try subst hK); try (refine VS.keep [4, 5] ?_; generalize hK : VS _ _ _ = KK; simp; (try subst hK)))
    refine VS.cool 4 (by simp (maxSteps := 1000000) [hF]) ?_
    generalize hK : VS _ _ _ = KK; simp [hF, St.cool]; (try subst hK)
    try refine VS.ret ?_
    repeat first | refine blockN_ret ?_ | refine loopN_ret ?_
    refine endK.of [4, 5] [0] [] (by simp [hF]) (by simp [covers, mpre]) ?_
    simp [hF, retK, dL]
end Go.Proofs.Ytahgopdamgagkaa

/- Things are made. -/
namespace Go.Proofs.Ytahgopdamgagkaa
set_option linter.all false
open Go.Vc Go.Proofs
set_option linter.unusedSimpArgs false
set_option linter.unusedVariables false
set_option maxRecDepth 100000
set_option maxHeartbeats 4000000
attribute [local irreducible] CallW EqK

def L0 : List Th := [⟨0, -1, -1, -1, [], []⟩]

/- cabochon/lineage.New -/
theorem new_ok : Meets Try.prog 30 [] .nil fun av X κ => av = .ptr 0 [.d] ∧ X = [dL L0] ∧ κ = [] := by
  refine Meets.of_vs tabOk Try.func30 (body := ?_) ?_ (by kernel_rfl) Try.ntmps30 (rs := [.tmp 0]) (by kernel_rfl) rfl (by simp [AV.len]) (by simp only [envOf]; exact rfl) ?_
  rotate_left
  · rfl
  intro w0 I0 F0 hF
  repeat first
    | refine VS.seq ?_
    | (refine VS.keepAt 0 [] ?_; generalize hK : VS _ _ _ = KK; (try simp); (try subst hK); refine VS.region tabOk (id := 0) [] (by kernel_rfl) ?_; generalize hK : VS _ _ _ = KK; simp (maxSteps := 1000000) [hF]; (try subst hK); try (refine VS.keep [] ?_; generalize hK : VS _ _ _ = KK; simp; (try subst hK)))
    | (refine VS.keepAt 1 [] ?_; generalize hK : VS _ _ _ = KK; (try simp); (try subst hK); refine VS.region tabOk (id := 1) [] (by kernel_rfl) ?_; generalize hK : VS _ _ _ = KK; simp (maxSteps := 1000000) [hF]; (try subst hK); try (refine VS.keep [0] ?_; generalize hK : VS _ _ _ = KK; simp; (try subst hK)))
  refine VS.cold 1 [.d, .f 0, .i 0, .f 4] (by simp (maxSteps := 1000000) [hF, T.freeze]) (by simp (maxSteps := 1000000) [hF, T.freeze]) (by simp (maxSteps := 1000000) [hF, T.freeze]) ?_
  generalize hK : VS _ _ _ = KK; simp [hF, St.cold, T.freeze]; (try subst hK)
  refine VS.cold 1 [.d, .f 0, .i 0, .f 5] (by simp (maxSteps := 1000000) [hF, T.freeze]) (by simp (maxSteps := 1000000) [hF, T.freeze]) (by simp (maxSteps := 1000000) [hF, T.freeze]) ?_
  generalize hK : VS _ _ _ = KK; simp [hF, St.cold, T.freeze]; (try subst hK)
  try refine VS.ret ?_
  repeat first | refine blockN_ret ?_ | refine loopN_ret ?_
  refine endK.of [0] [1] [] (by simp [hF]) (by simp [covers, mpre]) ?_
  simp [hF, retK, dL, L0, dThs, dTh, sq]

abbrev avNew (k s o w : Int) : AV := .agg (.cons (avInt k) (.cons (avInt s) (.cons (avInt o) (.cons (avInt w) (.cons (.nils 1) (.cons (.nils 1) .nil))))))

/- (*cabochon/lineage.Lineage).add -/
theorem add_ok (L : List Th) (hl : L.length ≤ 5000) (k s o w : Int) : Meets Try.prog 47 [dL L] (.cons (.ptr 0 [.d]) (.cons (avNew k s o w) .nil))
    fun av X κ => av = avInt L.length ∧ X = [dL (L ++ [⟨k, s, o, w, [], []⟩])] ∧ κ = [(0, [.d])] := by
  have hpush := dThs_push L ⟨k, s, o, w, [], []⟩
  simp only [dInts_nil] at hpush
  have hmid : (dThs (L ++ [⟨k, s, o, w, [], []⟩])).mid 0 (L.length + 1) = dThs (L ++ [⟨k, s, o, w, [], []⟩]) := sq_mid_all _ _ (by simp)
  have hw : IntKind.i64.wrap (L.length : Int) = L.length := IntWalk.i64_in _ (by omega)
  have hw2 : IntKind.i64.wrap (((L.length + 1 : Nat) : Int) - 1) = L.length := by
    have : (((L.length + 1 : Nat) : Int) - 1) = L.length := by omega
    rw [this]; exact hw
  have b1 : (L.length + 1) * 80 ≤ 140737488355328 := by omega
  have b2 : L.length + 1 ≤ 9223372036854775807 := by omega
  refine Meets.of_vs tabOk Try.func47 (body := ?_) ?_ (by kernel_rfl) Try.ntmps47 (rs := [.tmp 4]) (by kernel_rfl) rfl (by simp [AV.len]) (by simp only [envOf]; exact rfl) ?_
  rotate_left
  · rfl
  intro w0 I0 F0 hF
  repeat first
    | refine VS.seq ?_
  refine VS.chill 1 ?_
  generalize hK : VS _ _ _ = KK; simp [hF, St.chill]; (try subst hK)
  repeat first
    | refine VS.seq ?_
    | (refine VS.keepAt 0 [0, 1] ?_; generalize hK : VS _ _ _ = KK; (try simp); (try subst hK); refine VS.region tabOk (id := 0) [] (by kernel_rfl) ?_; generalize hK : VS _ _ _ = KK; simp (maxSteps := 1000000) [hF]; (try subst hK); try (refine VS.keep [0, 3] ?_; generalize hK : VS _ _ _ = KK; simp; (try subst hK)))
  refine VS.lift 0 [.d, .f 0] (by simp (maxSteps := 1000000) [hF, dL]) (by simp (maxSteps := 1000000) [hF, dL]) (by simp [isNode, dL]) (by simp (maxSteps := 1000000) [hF, dL]) ?_
  generalize hK : VS _ _ _ = KK; simp [hF, St.lift, AV.lift, liftPl, stripP, nodeAV, dL]; (try subst hK)
  repeat first
    | refine VS.seq ?_
    | (refine VS.keepAt 1 [0, 3] ?_; generalize hK : VS _ _ _ = KK; (try simp); (try subst hK); refine VS.drawn tabOk mixedOk (id := 1) [] [⟨0, 1, 32, 5⟩, ⟨0, 1, 64, 5⟩, ⟨2, 64, 128, 5⟩, ⟨4, 128, 256, 5⟩, ⟨8, 256, 512, 6⟩, ⟨0, 8, 1024, 6⟩, ⟨32, 1024, 2048, 4⟩, ⟨80, 2560, 4096, 0⟩, ⟨255, 32, 8192, 5⟩, ⟨511, 8192, 16384, 5⟩, ⟨767, 20480, 0, 0⟩] (.take 0 (.take 1 (.take 2 (.take 3 (.take 4 (.take 5 (.fork (.alt 6 (.fork (.alt 7 (.take 8 (.take 9 (.fork (.alt 10 (.done) (.nil))))) (.nil))) (.nil))))))))) (.run [0, 1, 2, 3, 4, 5, 6, 7, 8, 9, 10] (.done)) (by kernel_rfl) (by kernel_rfl) (by kernel_rfl) ?_; generalize hK : VS _ _ _ = KK; simp only [opsVc_run, opsVc_both, opsVc_chk, opsVc_done, opsVc_yes, pick_cons, pick_nil, List.getElem?_cons_zero, List.getElem?_cons_succ]; simp (maxSteps := 1000000) [hF, hpush, hmid, b1, b2, hw, hw2]; (try subst hK); try (refine VS.keep [0] ?_; generalize hK : VS _ _ _ = KK; simp; (try subst hK)))
    | (refine VS.keepAt 2 [0] ?_; generalize hK : VS _ _ _ = KK; (try simp); (try subst hK); refine VS.region tabOk (id := 2) [] (by kernel_rfl) ?_; generalize hK : VS _ _ _ = KK; simp (maxSteps := 1000000) [hF, hpush, hmid, b1, b2, hw, hw2]; (try subst hK); try (refine VS.keep [4] ?_; generalize hK : VS _ _ _ = KK; simp; (try subst hK)))
  try refine VS.ret ?_
  repeat first | refine blockN_ret ?_ | refine loopN_ret ?_
  refine endK.of [4] [0] [(0, [.d])] (by simp [hF]) (by simp [covers, mpre]) ?_
  simp [hF, retK, dL]

def newTh (k s o : Int) : Th := ⟨k, s, o, -1, [], []⟩
def classOf (L : List Th) (s : Int) : List Th × Int × Int :=
  if (val L s && decide ((thAt L s).kind = 0)) = false then (L, 0, 1) else if 1000 < L.length + 1 then (L, 0, 9) else (L ++ [newTh 0 s (-1)], (L.length : Int), 0)
def moduleOf (L : List Th) : List Th × Int × Int :=
  if L.length = 0 then (L, 0, 1) else if 1000 < L.length + 1 then (L, 0, 9) else (L ++ [newTh 1 (-1) (-1)], (L.length : Int), 0)
abbrev two (x : Int × Int) : AV := avTwo (avInt x.1) x.2

/- (*cabochon/lineage.Lineage).Class -/
theorem class_ok (L : List Th) (hl : L.length ≤ 1000) (s : Int) : Meets Try.prog 34 [dL L] (.cons (.ptr 0 [.d]) (.cons (avInt s) .nil))
    fun av X κ => av = two (classOf L s).2 ∧ X = [dL (classOf L s).1] ∧ κ = [(0, [.d])] := by
  refine Meets.of_vs tabOk Try.func34 (body := ?_) ?_ (by kernel_rfl) Try.ntmps34 (rs := [.tmp 4, .tmp 5]) (by kernel_rfl) rfl (by simp [AV.len]) (by simp only [envOf]; exact rfl) ?_
  rotate_left
  · rfl
  intro w0 I0 F0 hF
  repeat first
    | refine VS.seq ?_
    | (refine VS.keepAt 0 [0, 1] ?_; generalize hK : VS _ _ _ = KK; (try simp); (try subst hK); refine VS.region tabOk (id := 0) [] (by kernel_rfl) ?_; generalize hK : VS _ _ _ = KK; simp (maxSteps := 1000000) [hF]; (try subst hK); try (refine VS.keep [0, 1] ?_; generalize hK : VS _ _ _ = KK; simp; (try subst hK)))
    | (refine VS.keepAt 1 [0, 1] ?_; generalize hK : VS _ _ _ = KK; (try simp); (try subst hK); refine VS.region tabOk (id := 1) [] (by kernel_rfl) ?_; generalize hK : VS _ _ _ = KK; simp (maxSteps := 1000000) [hF]; (try subst hK); try (refine VS.keep [0, 1, 10] ?_; generalize hK : VS _ _ _ = KK; simp; (try subst hK)))
  cases hk : (val L s && decide ((thAt L s).kind = 0)) with
  | false =>
    have hc : classOf L s = (L, 0, 1) := by unfold classOf; rw [if_pos hk]
    refine (kind_ok L hl s 0).call [(0, [])] (by simp) (by simp (maxSteps := 1000000) [hF, dL, hk]) (by simp (maxSteps := 1000000) [hF, dL, hk]) (by simp (maxSteps := 1000000) [hF, dL, hk]) (by simp) ?_
    rintro av X κ ⟨rfl, rfl, rfl⟩
    generalize hK : VS _ _ _ = KK; simp (maxSteps := 1000000) [hF, dL, hk]; (try subst hK)
    repeat first
      | refine VS.seq ?_
      | (refine VS.keepAt 2 [] ?_; generalize hK : VS _ _ _ = KK; (try simp); (try subst hK); refine VS.region tabOk (id := 2) [] (by kernel_rfl) ?_; generalize hK : VS _ _ _ = KK; simp (maxSteps := 1000000) [hF]; (try subst hK); try (refine VS.keep [4, 5] ?_; generalize hK : VS _ _ _ = KK; simp; (try subst hK)))
      | (refine VS.cond ?_; generalize hK1 : VS _ _ _ = KK1; generalize hK2 : VS _ _ _ = KK2; simp (maxSteps := 1000000) [hF]; (try subst hK1); (try subst hK2))
    try refine VS.ret ?_
    repeat first | refine blockN_ret ?_ | refine loopN_ret ?_
    refine endK.of [4, 5] [0] [(0, [.d])] (by simp [hF]) (by simp [covers, mpre]) ?_
    simp [hF, retK, dL, hc]
  | true =>
    refine (kind_ok L hl s 0).call [(0, [])] (by simp) (by simp (maxSteps := 1000000) [hF, dL, hk]) (by simp (maxSteps := 1000000) [hF, dL, hk]) (by simp (maxSteps := 1000000) [hF, dL, hk]) (by simp) ?_
    rintro av X κ ⟨rfl, rfl, rfl⟩
    generalize hK : VS _ _ _ = KK; simp (maxSteps := 1000000) [hF, dL, hk]; (try subst hK)
    repeat first
      | refine VS.seq ?_
      | refine VS.skip ?_
      | (refine VS.keepAt 3 [0, 1] ?_; generalize hK : VS _ _ _ = KK; (try simp); (try subst hK); refine VS.region tabOk (id := 3) [] (by kernel_rfl) ?_; generalize hK : VS _ _ _ = KK; simp (maxSteps := 1000000) [hF]; (try subst hK); try (refine VS.keep [0, 1, 6] ?_; generalize hK : VS _ _ _ = KK; simp; (try subst hK)))
      | (refine VS.cond ?_; generalize hK1 : VS _ _ _ = KK1; generalize hK2 : VS _ _ _ = KK2; simp (maxSteps := 1000000) [hF]; (try subst hK1); (try subst hK2))
    refine (room_ok L hl 1 (by omega)).call [(0, [])] (by simp) (by simp (maxSteps := 1000000) [hF, dL]) (by simp (maxSteps := 1000000) [hF, dL]) (by simp (maxSteps := 1000000) [hF, dL]) (by simp) ?_
    rintro av X κ ⟨rfl, rfl, rfl⟩
    generalize hK : VS _ _ _ = KK; simp (maxSteps := 1000000) [hF, dL]; (try subst hK)
    by_cases hf : 1000 < L.length + 1
    · have hc : classOf L s = (L, 0, 9) := by unfold classOf; rw [if_neg (by simp [hk]), if_pos hf]
      repeat first
        | refine VS.seq ?_
        | (refine VS.keepAt 4 [0, 1, 6] ?_; generalize hK : VS _ _ _ = KK; (try simp); (try subst hK); refine VS.region tabOk (id := 4) [] (by kernel_rfl) ?_; generalize hK : VS _ _ _ = KK; simp (maxSteps := 1000000) [hF, hf]; (try subst hK); try (refine VS.keep [0, 1, 6, 14] ?_; generalize hK : VS _ _ _ = KK; simp; (try subst hK)))
        | (refine VS.keepAt 5 [6] ?_; generalize hK : VS _ _ _ = KK; (try simp); (try subst hK); refine VS.region tabOk (id := 5) [] (by kernel_rfl) ?_; generalize hK : VS _ _ _ = KK; simp (maxSteps := 1000000) [hF, hf]; (try subst hK); try (refine VS.keep [4, 5] ?_; generalize hK : VS _ _ _ = KK; simp; (try subst hK)))
        | (refine VS.cond ?_; generalize hK1 : VS _ _ _ = KK1; generalize hK2 : VS _ _ _ = KK2; simp (maxSteps := 1000000) [hF, hf]; (try subst hK1); (try subst hK2))
      try refine VS.ret ?_
      repeat first | refine blockN_ret ?_ | refine loopN_ret ?_
      refine endK.of [4, 5] [0] [(0, [.d])] (by simp [hF]) (by simp [covers, mpre]) ?_
      simp [hF, retK, dL, hc]
    · have hc : classOf L s = (L ++ [newTh 0 s (-1)], (L.length : Int), 0) := by unfold classOf; rw [if_neg (by simp [hk]), if_neg hf]
      repeat first
        | refine VS.seq ?_
        | refine VS.skip ?_
        | (refine VS.keepAt 4 [0, 1, 6] ?_; generalize hK : VS _ _ _ = KK; (try simp); (try subst hK); refine VS.region tabOk (id := 4) [] (by kernel_rfl) ?_; generalize hK : VS _ _ _ = KK; simp (maxSteps := 1000000) [hF, hf]; (try subst hK); try (refine VS.keep [0, 1, 6, 14] ?_; generalize hK : VS _ _ _ = KK; simp; (try subst hK)))
        | (refine VS.keepAt 6 [0, 1] ?_; generalize hK : VS _ _ _ = KK; (try simp); (try subst hK); refine VS.region tabOk (id := 6) [] (by kernel_rfl) ?_; generalize hK : VS _ _ _ = KK; simp (maxSteps := 1000000) [hF, hf]; (try subst hK); try (refine VS.keep [4, 5] ?_; generalize hK : VS _ _ _ = KK; simp; (try subst hK)))
        | (refine VS.cond ?_; generalize hK1 : VS _ _ _ = KK1; generalize hK2 : VS _ _ _ = KK2; simp (maxSteps := 1000000) [hF, hf]; (try subst hK1); (try subst hK2))
      refine (add_ok L (by omega) 0 s (-1) (-1)).call [(0, [])] (by simp) (by simp (maxSteps := 1000000) [hF, dL]) (by simp (maxSteps := 1000000) [hF, dL]) (by simp (maxSteps := 1000000) [hF, dL]) (by simp) ?_
      rintro av X κ ⟨rfl, rfl, rfl⟩
      generalize hK : VS _ _ _ = KK; simp (maxSteps := 1000000) [hF, dL]; (try subst hK)
      try refine VS.ret ?_
      repeat first | refine blockN_ret ?_ | refine loopN_ret ?_
      refine endK.of [4, 5] [0] [(0, [.d])] (by simp [hF]) (by simp [covers, mpre]) ?_
      simp [hF, retK, dL, hc, newTh]

/- (*cabochon/lineage.Lineage).Module -/
theorem module_ok (L : List Th) (hl : L.length ≤ 1000) : Meets Try.prog 33 [dL L] (.cons (.ptr 0 [.d]) .nil)
    fun av X κ => av = two (moduleOf L).2 ∧ X = [dL (moduleOf L).1] ∧ κ = [(0, [.d])] := by
  refine Meets.of_vs tabOk Try.func33 (body := ?_) ?_ (by kernel_rfl) Try.ntmps33 (rs := [.tmp 2, .tmp 3]) (by kernel_rfl) rfl (by simp [AV.len]) (by simp only [envOf]; exact rfl) ?_
  rotate_left
  · rfl
  intro w0 I0 F0 hF
  repeat first
    | refine VS.seq ?_
    | (refine VS.keepAt 0 [0] ?_; generalize hK : VS _ _ _ = KK; (try simp); (try subst hK); refine VS.region tabOk (id := 0) [] (by kernel_rfl) ?_; generalize hK : VS _ _ _ = KK; simp (maxSteps := 1000000) [hF]; (try subst hK); try (refine VS.keep [0] ?_; generalize hK : VS _ _ _ = KK; simp; (try subst hK)))
    | (refine VS.keepAt 1 [0] ?_; generalize hK : VS _ _ _ = KK; (try simp); (try subst hK); refine VS.region tabOk (id := 1) [] (by kernel_rfl) ?_; generalize hK : VS _ _ _ = KK; simp (maxSteps := 1000000) [hF]; (try subst hK); try (refine VS.keep [0, 7] ?_; generalize hK : VS _ _ _ = KK; simp; (try subst hK)))
  refine (len_ok L hl).call [(0, [])] (by simp) (by simp (maxSteps := 1000000) [hF, dL]) (by simp (maxSteps := 1000000) [hF, dL]) (by simp (maxSteps := 1000000) [hF, dL]) (by simp) ?_
  rintro av X κ ⟨rfl, rfl, rfl⟩
  generalize hK : VS _ _ _ = KK; simp (maxSteps := 1000000) [hF, dL]; (try subst hK)
  by_cases h0 : L = []
  · subst h0
    have hc : moduleOf [] = ([], 0, 1) := by unfold moduleOf; rw [if_pos (by simp)]
    repeat first
      | refine VS.seq ?_
      | (refine VS.keepAt 2 [] ?_; generalize hK : VS _ _ _ = KK; (try simp); (try subst hK); refine VS.region tabOk (id := 2) [] (by kernel_rfl) ?_; generalize hK : VS _ _ _ = KK; simp (maxSteps := 1000000) [hF]; (try subst hK); try (refine VS.keep [2, 3] ?_; generalize hK : VS _ _ _ = KK; simp; (try subst hK)))
      | (refine VS.cond ?_; generalize hK1 : VS _ _ _ = KK1; generalize hK2 : VS _ _ _ = KK2; simp (maxSteps := 1000000) [hF]; (try subst hK1); (try subst hK2))
    try refine VS.ret ?_
    repeat first | refine blockN_ret ?_ | refine loopN_ret ?_
    refine endK.of [2, 3] [0] [(0, [.d])] (by simp [hF]) (by simp [covers, mpre]) ?_
    simp [hF, retK, dL, hc]
  · repeat first
      | refine VS.seq ?_
      | refine VS.skip ?_
      | (refine VS.keepAt 3 [0] ?_; generalize hK : VS _ _ _ = KK; (try simp); (try subst hK); refine VS.region tabOk (id := 3) [] (by kernel_rfl) ?_; generalize hK : VS _ _ _ = KK; simp (maxSteps := 1000000) [hF, h0]; (try subst hK); try (refine VS.keep [0, 4] ?_; generalize hK : VS _ _ _ = KK; simp; (try subst hK)))
      | (refine VS.cond ?_; generalize hK1 : VS _ _ _ = KK1; generalize hK2 : VS _ _ _ = KK2; simp (maxSteps := 1000000) [hF, h0]; (try subst hK1); (try subst hK2))
    refine (room_ok L hl 1 (by omega)).call [(0, [])] (by simp) (by simp (maxSteps := 1000000) [hF, dL]) (by simp (maxSteps := 1000000) [hF, dL]) (by simp (maxSteps := 1000000) [hF, dL]) (by simp) ?_
    rintro av X κ ⟨rfl, rfl, rfl⟩
    generalize hK : VS _ _ _ = KK; simp (maxSteps := 1000000) [hF, dL]; (try subst hK)
    by_cases hf : 1000 < L.length + 1
    · have hc : moduleOf L = (L, 0, 9) := by unfold moduleOf; rw [if_neg (by simp [h0]), if_pos hf]
      repeat first
        | refine VS.seq ?_
        | (refine VS.keepAt 4 [0, 4] ?_; generalize hK : VS _ _ _ = KK; (try simp); (try subst hK); refine VS.region tabOk (id := 4) [] (by kernel_rfl) ?_; generalize hK : VS _ _ _ = KK; simp (maxSteps := 1000000) [hF, hf]; (try subst hK); try (refine VS.keep [0, 4, 11] ?_; generalize hK : VS _ _ _ = KK; simp; (try subst hK)))
        | (refine VS.keepAt 5 [4] ?_; generalize hK : VS _ _ _ = KK; (try simp); (try subst hK); refine VS.region tabOk (id := 5) [] (by kernel_rfl) ?_; generalize hK : VS _ _ _ = KK; simp (maxSteps := 1000000) [hF, hf]; (try subst hK); try (refine VS.keep [2, 3] ?_; generalize hK : VS _ _ _ = KK; simp; (try subst hK)))
        | (refine VS.cond ?_; generalize hK1 : VS _ _ _ = KK1; generalize hK2 : VS _ _ _ = KK2; simp (maxSteps := 1000000) [hF, hf]; (try subst hK1); (try subst hK2))
      try refine VS.ret ?_
      repeat first | refine blockN_ret ?_ | refine loopN_ret ?_
      refine endK.of [2, 3] [0] [(0, [.d])] (by simp [hF]) (by simp [covers, mpre]) ?_
      simp [hF, retK, dL, hc]
    · have hc : moduleOf L = (L ++ [newTh 1 (-1) (-1)], (L.length : Int), 0) := by unfold moduleOf; rw [if_neg (by simp [h0]), if_neg hf]
      repeat first
        | refine VS.seq ?_
        | refine VS.skip ?_
        | (refine VS.keepAt 4 [0, 4] ?_; generalize hK : VS _ _ _ = KK; (try simp); (try subst hK); refine VS.region tabOk (id := 4) [] (by kernel_rfl) ?_; generalize hK : VS _ _ _ = KK; simp (maxSteps := 1000000) [hF, hf]; (try subst hK); try (refine VS.keep [0, 4, 11] ?_; generalize hK : VS _ _ _ = KK; simp; (try subst hK)))
        | (refine VS.keepAt 6 [0] ?_; generalize hK : VS _ _ _ = KK; (try simp); (try subst hK); refine VS.region tabOk (id := 6) [] (by kernel_rfl) ?_; generalize hK : VS _ _ _ = KK; simp (maxSteps := 1000000) [hF, hf]; (try subst hK); try (refine VS.keep [2, 3] ?_; generalize hK : VS _ _ _ = KK; simp; (try subst hK)))
        | (refine VS.cond ?_; generalize hK1 : VS _ _ _ = KK1; generalize hK2 : VS _ _ _ = KK2; simp (maxSteps := 1000000) [hF, hf]; (try subst hK1); (try subst hK2))
      refine (add_ok L (by omega) 1 (-1) (-1) (-1)).call [(0, [])] (by simp) (by simp (maxSteps := 1000000) [hF, dL]) (by simp (maxSteps := 1000000) [hF, dL]) (by simp (maxSteps := 1000000) [hF, dL]) (by simp) ?_
      rintro av X κ ⟨rfl, rfl, rfl⟩
      generalize hK : VS _ _ _ = KK; simp (maxSteps := 1000000) [hF, dL]; (try subst hK)
      try refine VS.ret ?_
      repeat first | refine blockN_ret ?_ | refine loopN_ret ?_
      refine endK.of [2, 3] [0] [(0, [.d])] (by simp [hF]) (by simp [covers, mpre]) ?_
      simp [hF, retK, dL, hc, newTh]

def dObj (o : Int) : D := .box true () (.val (.int .i64 o))
@[simp high] theorem head_dObj (o : Int) : isHead (dObj o) = true := by rw [dObj, isHead]
def isSing (o : Int) (x : Th) : Bool := decide (x.kind = 2 ∧ x.obj = o)

/- (*cabochon/lineage.Lineage).Singleton$1 -/
theorem s1_ok (x : Th) (o : Int) : Meets Try.prog 50 [dObj o] (.cons (avTh x) (.cons (.ptr 0 [.d]) .nil))
    fun av X κ => av = avBool (isSing o x) ∧ X = [dObj o] ∧ κ = [] := by
  unfold avTh
  refine Meets.of_vs tabOk Try.func50 (body := ?_) ?_ (by kernel_rfl) Try.ntmps50 (rs := [.tmp 3]) (by kernel_rfl) rfl (by simp [AV.len]) (by simp only [envOf]; exact rfl) ?_
  rotate_left
  · rfl
  intro w0 I0 F0 hF
  by_cases h1 : x.kind = 2
  · by_cases h2 : x.obj = o
    · repeat first
        | refine VS.seq ?_
        | (refine VS.keepAt 0 [0, 1] ?_; generalize hK : VS _ _ _ = KK; (try simp); (try subst hK); refine VS.region tabOk (id := 0) [] (by kernel_rfl) ?_; generalize hK : VS _ _ _ = KK; simp (maxSteps := 1000000) [hF, dObj, h1, h2]; (try subst hK); try (refine VS.keep [1, 2] ?_; generalize hK : VS _ _ _ = KK; simp; (try subst hK)))
        | (refine VS.keepAt 1 [1, 2] ?_; generalize hK : VS _ _ _ = KK; (try simp); (try subst hK); refine VS.region tabOk (id := 1) [(3, 7)] (by kernel_rfl) ?_; generalize hK : VS _ _ _ = KK; simp (maxSteps := 1000000) [hF, dObj, h1, h2]; (try subst hK); try (refine VS.keep [3] ?_; generalize hK : VS _ _ _ = KK; simp; (try subst hK)))
      try refine VS.ret ?_
      repeat first | refine blockN_ret ?_ | refine loopN_ret ?_
      refine endK.of [3] [0] [] (by simp [hF]) (by simp [covers, mpre]) ?_
      simp [hF, retK, dObj, isSing, h1, h2]
    · repeat first
        | refine VS.seq ?_
        | (refine VS.keepAt 0 [0, 1] ?_; generalize hK : VS _ _ _ = KK; (try simp); (try subst hK); refine VS.region tabOk (id := 0) [] (by kernel_rfl) ?_; generalize hK : VS _ _ _ = KK; simp (maxSteps := 1000000) [hF, dObj, h1, h2]; (try subst hK); try (refine VS.keep [1, 2] ?_; generalize hK : VS _ _ _ = KK; simp; (try subst hK)))
        | (refine VS.keepAt 1 [1, 2] ?_; generalize hK : VS _ _ _ = KK; (try simp); (try subst hK); refine VS.region tabOk (id := 1) [(3, 7)] (by kernel_rfl) ?_; generalize hK : VS _ _ _ = KK; simp (maxSteps := 1000000) [hF, dObj, h1, h2]; (try subst hK); try (refine VS.keep [3] ?_; generalize hK : VS _ _ _ = KK; simp; (try subst hK)))
      try refine VS.ret ?_
      repeat first | refine blockN_ret ?_ | refine loopN_ret ?_
      refine endK.of [3] [0] [] (by simp [hF]) (by simp [covers, mpre]) ?_
      simp [hF, retK, dObj, isSing, h1, h2]
  · repeat first
      | refine VS.seq ?_
      | (refine VS.keepAt 0 [0, 1] ?_; generalize hK : VS _ _ _ = KK; (try simp); (try subst hK); refine VS.region tabOk (id := 0) [] (by kernel_rfl) ?_; generalize hK : VS _ _ _ = KK; simp (maxSteps := 1000000) [hF, dObj, h1]; (try subst hK); try (refine VS.keep [1, 2] ?_; generalize hK : VS _ _ _ = KK; simp; (try subst hK)))
      | (refine VS.keepAt 1 [1, 2] ?_; generalize hK : VS _ _ _ = KK; (try simp); (try subst hK); refine VS.region tabOk (id := 1) [(3, 7)] (by kernel_rfl) ?_; generalize hK : VS _ _ _ = KK; simp (maxSteps := 1000000) [hF, dObj, h1]; (try subst hK); try (refine VS.keep [3] ?_; generalize hK : VS _ _ _ = KK; simp; (try subst hK)))
    try refine VS.ret ?_
    repeat first | refine blockN_ret ?_ | refine loopN_ret ?_
    refine endK.of [3] [0] [] (by simp [hF]) (by simp [covers, mpre]) ?_
    simp [hF, retK, dObj, isSing, h1]

/- slices.IndexFunc[[]cabochon/lineage.thing,cabochon/lineage.thing] -/
theorem indexFunc_t (L : List Th) (hl : L.length ≤ 1000) (o : Int) :
    Meets Try.prog 49 [dL L, dObj o] (.cons (.sub 0 [.d, .f 0] 0 L.length false) (.cons (.fn 50 (.cons (.ptr 1 [.d]) .nil)) .nil))
    fun av X κ => av = avInt (ixF (isSing o) L) ∧ X = [dL L, dObj o] ∧ κ = [] := by
  refine Meets.of_vs tabOk Try.func49 (body := ?_) ?_ (by kernel_rfl) Try.ntmps49 (rs := [.tmp 4]) (by kernel_rfl) rfl (by simp [AV.len]) (by simp only [envOf]; exact rfl) ?_
  rotate_left
  · rfl
  intro w0 I0 F0 hF
  repeat first
    | refine VS.seq ?_
    | refine VS.block ?_
    | (refine VS.keepAt 0 [0, 1] ?_; generalize hK : VS _ _ _ = KK; (try simp); (try subst hK); refine VS.region tabOk (id := 0) [] (by kernel_rfl) ?_; generalize hK : VS _ _ _ = KK; simp (maxSteps := 1000000) [hF]; (try subst hK); try (refine VS.keep [0, 1] ?_; generalize hK : VS _ _ _ = KK; simp; (try subst hK)))
    | (refine VS.keepAt 1 [0, 1] ?_; generalize hK : VS _ _ _ = KK; (try simp); (try subst hK); refine VS.region tabOk (id := 1) [] (by kernel_rfl) ?_; generalize hK : VS _ _ _ = KK; simp (maxSteps := 1000000) [hF]; (try subst hK); try (refine VS.keep [0, 1, 7, 8] ?_; generalize hK : VS _ _ _ = KK; simp; (try subst hK)))
  refine VS.rounds (fun m st => ∃ (i : Nat), i + m = L.length ∧ (∀ j, (h : j < L.length) → j < i → isSing o L[j] = false) ∧ st = ⟨[(0, .sub 0 [.d, .f 0] 0 L.length false), (1, .fn 50 (.cons (.ptr 1 [.d]) .nil)), (7, avInt L.length), (8, avInt i)], [dL L, dObj o], [], []⟩) ⟨L.length, 0, by omega, by omega, by simp⟩ ?_
  rintro m st ⟨i, hi, hall, rfl⟩
  repeat first
    | refine VS.seq ?_
    | (refine VS.keepAt 2 [0, 1, 7, 8] ?_; generalize hK : VS _ _ _ = KK; (try simp); (try subst hK); refine VS.region tabOk (id := 2) [] (by kernel_rfl) ?_; generalize hK : VS _ _ _ = KK; simp (maxSteps := 1000000) [hF]; (try subst hK); try (refine VS.keep [0, 1, 7, 8, 9] ?_; generalize hK : VS _ _ _ = KK; simp; (try subst hK)))
    | (refine VS.cond ?_; generalize hK1 : VS _ _ _ = KK1; generalize hK2 : VS _ _ _ = KK2; simp (maxSteps := 1000000) [hF]; (try subst hK1); (try subst hK2))
  refine ⟨fun hlt => ?_, fun hge => ?_⟩
  · have hi' : i < L.length := by omega
    have hn := dThs_nth hi'
    repeat first
      | refine VS.seq ?_
      | refine VS.skip ?_
      | refine VS.block ?_
      | (refine VS.keepAt 3 [0, 1, 7, 8] ?_; generalize hK : VS _ _ _ = KK; (try simp); (try subst hK); refine VS.region tabOk (id := 3) [] (by kernel_rfl) ?_; generalize hK : VS _ _ _ = KK; simp (maxSteps := 1000000) [hF, dL, hn, hi']; (try subst hK); try (refine VS.keep [0, 1, 5, 7, 8] ?_; generalize hK : VS _ _ _ = KK; simp; (try subst hK)))
      | (refine VS.keepAt 4 [0, 1, 5, 7, 8] ?_; generalize hK : VS _ _ _ = KK; (try simp); (try subst hK); refine VS.region tabOk (id := 4) [] (by kernel_rfl) ?_; generalize hK : VS _ _ _ = KK; simp (maxSteps := 1000000) [hF, dL, hn, hi']; (try subst hK); try (refine VS.keep [0, 1, 5, 7, 8, 16] ?_; generalize hK : VS _ _ _ = KK; simp; (try subst hK)))
    refine (s1_ok L[i] o).call [(1, [])] (by simp) (by simp (maxSteps := 1000000) [hF, dObj, avTh]) (by simp (maxSteps := 1000000) [hF, dObj, avTh]) (by simp (maxSteps := 1000000) [hF, dObj, avTh]) (by simp) ?_
    rintro av X κ ⟨rfl, rfl, rfl⟩
    generalize hK : VS _ _ _ = KK; simp (maxSteps := 1000000) [hF, dObj, avTh]; (try subst hK)
    cases hp : isSing o L[i] with
    | true =>
      have hr : ixF (isSing o) L = i := ixF_hit hi' (fun j h => hall j (by omega) h) hp
      repeat first
        | refine VS.seq ?_
        | (refine VS.keepAt 5 [5] ?_; generalize hK : VS _ _ _ = KK; (try simp); (try subst hK); refine VS.region tabOk (id := 5) [] (by kernel_rfl) ?_; generalize hK : VS _ _ _ = KK; simp (maxSteps := 1000000) [hF, hp]; (try subst hK); try (refine VS.keep [4] ?_; generalize hK : VS _ _ _ = KK; simp; (try subst hK)))
        | (refine VS.cond ?_; generalize hK1 : VS _ _ _ = KK1; generalize hK2 : VS _ _ _ = KK2; simp (maxSteps := 1000000) [hF, hp]; (try subst hK1); (try subst hK2))
      try refine VS.ret ?_
      repeat first | refine blockN_ret ?_ | refine loopN_ret ?_
      refine endK.of [4] [0, 1] [] (by simp [hF]) (by simp [covers, mpre]) ?_
      simp [hF, retK, dL, dObj, hr]
    | false =>
      repeat first
        | refine VS.skip ?_
        | refine VS.nil ?_
        | refine blockN_normal ?_
        | refine loopN_normal ?_
        | (refine VS.keepAt 6 [0, 1, 7, 8] ?_; generalize hK : VS _ _ _ = KK; (try simp); (try subst hK); refine VS.region tabOk (id := 6) [] (by kernel_rfl) ?_; generalize hK : VS _ _ _ = KK; simp (maxSteps := 1000000) [hF, hp]; (try subst hK); try (refine VS.keep [0, 1, 7, 8] ?_; generalize hK : VS _ _ _ = KK; simp; (try subst hK)))
        | (refine VS.cond ?_; generalize hK1 : VS _ _ _ = KK1; generalize hK2 : VS _ _ _ = KK2; simp (maxSteps := 1000000) [hF, hp]; (try subst hK1); (try subst hK2))
      refine nextK.of [0, 1, 7, 8] [0, 1] (m - 1) (by omega) (by simp [hF]) ?_
      refine ⟨i + 1, by omega, ?_, ?_⟩
      · intro j hj hji
        rcases Nat.lt_or_ge j i with h' | h'
        · exact hall j hj h'
        · obtain rfl : j = i := by omega
          exact hp
      · simp [dL, dObj]
        exact IntWalk.i64_in _ (by omega)
  · have hr : ixF (isSing o) L = -1 := ixF_miss (fun j h => hall j h (by omega))
    repeat first
      | refine VS.seq ?_
      | refine VS.exit ?_
      | (refine VS.keepAt 7 [] ?_; generalize hK : VS _ _ _ = KK; (try simp); (try subst hK); refine VS.region tabOk (id := 7) [] (by kernel_rfl) ?_; generalize hK : VS _ _ _ = KK; simp (maxSteps := 1000000) [hF]; (try subst hK); try (refine VS.keep [4] ?_; generalize hK : VS _ _ _ = KK; simp; (try subst hK)))
    try refine VS.ret ?_
    repeat first | refine blockN_ret ?_ | refine loopN_ret ?_
    refine endK.of [4] [0, 1] [] (by simp [hF]) (by simp [covers, mpre]) ?_
    simp [hF, retK, dL, dObj, hr]

def singletonOf (L : List Th) (c o : Int) : List Th × Int × Int :=
  if (val L c && decide ((thAt L c).kind = 0)) = false ∨ o < 0 ∨ 100 ≤ o then (L, 0, 1)
  else if 0 ≤ ixF (isSing o) L then if (thAt L (ixF (isSing o) L)).sup = c then (L, ixF (isSing o) L, 0) else (L, 0, 1)
  else if 1000 < L.length + 1 then (L, 0, 9) else (L ++ [newTh 2 c o], (L.length : Int), 0)

/- (*cabochon/lineage.Lineage).Singleton -/
theorem singleton_ok (L : List Th) (hl : L.length ≤ 1000) (c o : Int) : Meets Try.prog 35 [dL L] (.cons (.ptr 0 [.d]) (.cons (avInt c) (.cons (avInt o) .nil)))
    fun av X κ => av = two (singletonOf L c o).2 ∧ X = [dL (singletonOf L c o).1] ∧ κ = [(0, [.d])] := by
  refine Meets.of_vs tabOk Try.func35 (body := ?_) ?_ (by kernel_rfl) Try.ntmps35 (rs := [.tmp 6, .tmp 7]) (by kernel_rfl) rfl (by simp [AV.len]) (by simp only [envOf]; exact rfl) ?_
  rotate_left
  · rfl
  intro w0 I0 F0 hF
  repeat first
    | refine VS.seq ?_
    | (refine VS.keepAt 0 [0, 1, 2] ?_; generalize hK : VS _ _ _ = KK; (try simp); (try subst hK); refine VS.region tabOk (id := 0) [] (by kernel_rfl) ?_; generalize hK : VS _ _ _ = KK; simp (maxSteps := 1000000) [hF]; (try subst hK); try (refine VS.keep [0, 1, 5] ?_; generalize hK : VS _ _ _ = KK; simp; (try subst hK)))
    | (refine VS.keepAt 1 [0, 1, 5] ?_; generalize hK : VS _ _ _ = KK; (try simp); (try subst hK); refine VS.region tabOk (id := 1) [(4, 14), (8, 18)] (by kernel_rfl) ?_; generalize hK : VS _ _ _ = KK; simp (maxSteps := 1000000) [hF]; (try subst hK); try (refine VS.keep [0, 1, 5, 21] ?_; generalize hK : VS _ _ _ = KK; simp; (try subst hK)))
  by_cases hbad : (val L c && decide ((thAt L c).kind = 0)) = false ∨ o < 0 ∨ 100 ≤ o
  · have hc : singletonOf L c o = (L, 0, 1) := by unfold singletonOf; rw [if_pos hbad]
    cases hk : (val L c && decide ((thAt L c).kind = 0)) with
    | false =>
      refine (kind_ok L hl c 0).call [(0, [])] (by simp) (by simp (maxSteps := 1000000) [hF, dL, hk]) (by simp (maxSteps := 1000000) [hF, dL, hk]) (by simp (maxSteps := 1000000) [hF, dL, hk]) (by simp) ?_
      rintro av X κ ⟨rfl, rfl, rfl⟩
      generalize hK : VS _ _ _ = KK; simp (maxSteps := 1000000) [hF, dL, hk]; (try subst hK)
      repeat first
        | refine VS.seq ?_
        | (refine VS.keepAt 2 [] ?_; generalize hK : VS _ _ _ = KK; (try simp); (try subst hK); refine VS.region tabOk (id := 2) [] (by kernel_rfl) ?_; generalize hK : VS _ _ _ = KK; simp (maxSteps := 1000000) [hF]; (try subst hK); try (refine VS.keep [6, 7] ?_; generalize hK : VS _ _ _ = KK; simp; (try subst hK)))
        | (refine VS.cond ?_; generalize hK1 : VS _ _ _ = KK1; generalize hK2 : VS _ _ _ = KK2; simp (maxSteps := 1000000) [hF]; (try subst hK1); (try subst hK2))
      try refine VS.ret ?_
      repeat first | refine blockN_ret ?_ | refine loopN_ret ?_
      refine endK.of [6, 7] [0] [(0, [.d])] (by simp [hF]) (by simp [covers, mpre]) ?_
      simp [hF, retK, dL, hc]
    | true =>
      by_cases h1 : o < 0
      · refine (kind_ok L hl c 0).call [(0, [])] (by simp) (by simp (maxSteps := 1000000) [hF, dL, hk, h1]) (by simp (maxSteps := 1000000) [hF, dL, hk, h1]) (by simp (maxSteps := 1000000) [hF, dL, hk, h1]) (by simp) ?_
        rintro av X κ ⟨rfl, rfl, rfl⟩
        generalize hK : VS _ _ _ = KK; simp (maxSteps := 1000000) [hF, dL, hk, h1]; (try subst hK)
        repeat first
          | refine VS.seq ?_
          | (refine VS.keepAt 2 [] ?_; generalize hK : VS _ _ _ = KK; (try simp); (try subst hK); refine VS.region tabOk (id := 2) [] (by kernel_rfl) ?_; generalize hK : VS _ _ _ = KK; simp (maxSteps := 1000000) [hF]; (try subst hK); try (refine VS.keep [6, 7] ?_; generalize hK : VS _ _ _ = KK; simp; (try subst hK)))
          | (refine VS.cond ?_; generalize hK1 : VS _ _ _ = KK1; generalize hK2 : VS _ _ _ = KK2; simp (maxSteps := 1000000) [hF]; (try subst hK1); (try subst hK2))
        try refine VS.ret ?_
        repeat first | refine blockN_ret ?_ | refine loopN_ret ?_
        refine endK.of [6, 7] [0] [(0, [.d])] (by simp [hF]) (by simp [covers, mpre]) ?_
        simp [hF, retK, dL, hc]
      · have h2 : 100 ≤ o := by
          rcases hbad with h | h | h
          · rw [hk] at h; cases h
          · exact absurd h h1
          · exact h
        refine (kind_ok L hl c 0).call [(0, [])] (by simp) (by simp (maxSteps := 1000000) [hF, dL, hk, h1, h2]) (by simp (maxSteps := 1000000) [hF, dL, hk, h1, h2]) (by simp (maxSteps := 1000000) [hF, dL, hk, h1, h2]) (by simp) ?_
        rintro av X κ ⟨rfl, rfl, rfl⟩
        generalize hK : VS _ _ _ = KK; simp (maxSteps := 1000000) [hF, dL, hk, h1, h2]; (try subst hK)
        repeat first
          | refine VS.seq ?_
          | (refine VS.keepAt 2 [] ?_; generalize hK : VS _ _ _ = KK; (try simp); (try subst hK); refine VS.region tabOk (id := 2) [] (by kernel_rfl) ?_; generalize hK : VS _ _ _ = KK; simp (maxSteps := 1000000) [hF]; (try subst hK); try (refine VS.keep [6, 7] ?_; generalize hK : VS _ _ _ = KK; simp; (try subst hK)))
          | (refine VS.cond ?_; generalize hK1 : VS _ _ _ = KK1; generalize hK2 : VS _ _ _ = KK2; simp (maxSteps := 1000000) [hF]; (try subst hK1); (try subst hK2))
        try refine VS.ret ?_
        repeat first | refine blockN_ret ?_ | refine loopN_ret ?_
        refine endK.of [6, 7] [0] [(0, [.d])] (by simp [hF]) (by simp [covers, mpre]) ?_
        simp [hF, retK, dL, hc]
  · have hk : (val L c && decide ((thAt L c).kind = 0)) = true := by
      cases h : (val L c && decide ((thAt L c).kind = 0)) with
      | true => rfl
      | false => exact absurd (.inl h) hbad
    have h1 : ¬ o < 0 := fun h => hbad (.inr (.inl h))
    have h2 : ¬ 100 ≤ o := fun h => hbad (.inr (.inr h))
    refine (kind_ok L hl c 0).call [(0, [])] (by simp) (by simp (maxSteps := 1000000) [hF, dL, hk, h1, h2]) (by simp (maxSteps := 1000000) [hF, dL, hk, h1, h2]) (by simp (maxSteps := 1000000) [hF, dL, hk, h1, h2]) (by simp) ?_
    rintro av X κ ⟨rfl, rfl, rfl⟩
    generalize hK : VS _ _ _ = KK; simp (maxSteps := 1000000) [hF, dL, hk, h1, h2]; (try subst hK)
    repeat first
      | refine VS.seq ?_
      | refine VS.skip ?_
      | (refine VS.keepAt 3 [0, 1, 5] ?_; generalize hK : VS _ _ _ = KK; (try simp); (try subst hK); refine VS.region tabOk (id := 3) [] (by kernel_rfl) ?_; generalize hK : VS _ _ _ = KK; simp (maxSteps := 1000000) [hF]; (try subst hK); try (refine VS.keep [0, 1, 5, 8] ?_; generalize hK : VS _ _ _ = KK; simp; (try subst hK)))
      | (refine VS.cond ?_; generalize hK1 : VS _ _ _ = KK1; generalize hK2 : VS _ _ _ = KK2; simp (maxSteps := 1000000) [hF]; (try subst hK1); (try subst hK2))
    refine (indexFunc_t L hl o).call [(0, []), (1, [])] (by simp) (by simp (maxSteps := 1000000) [hF, dL, dObj]) (by simp (maxSteps := 1000000) [hF, dL, dObj]) (by simp (maxSteps := 1000000) [hF, dL, dObj]) (by simp) ?_
    rintro av X κ ⟨rfl, rfl, rfl⟩
    generalize hK : VS _ _ _ = KK; simp (maxSteps := 1000000) [hF, dL, dObj]; (try subst hK)
    by_cases hat : ixF (isSing o) L = -1
    · have hneg : ¬ (0 ≤ ixF (isSing o) L) := by omega
      repeat first
        | refine VS.seq ?_
        | refine VS.skip ?_
        | (refine VS.keepAt 4 [0, 1, 5, 8] ?_; generalize hK : VS _ _ _ = KK; (try simp); (try subst hK); refine VS.region tabOk (id := 4) [] (by kernel_rfl) ?_; generalize hK : VS _ _ _ = KK; simp (maxSteps := 1000000) [hF, hat]; (try subst hK); try (refine VS.keep [0, 1, 5, 8, 29] ?_; generalize hK : VS _ _ _ = KK; simp; (try subst hK)))
        | (refine VS.keepAt 8 [0, 1, 5] ?_; generalize hK : VS _ _ _ = KK; (try simp); (try subst hK); refine VS.region tabOk (id := 8) [] (by kernel_rfl) ?_; generalize hK : VS _ _ _ = KK; simp (maxSteps := 1000000) [hF, hat]; (try subst hK); try (refine VS.keep [0, 1, 5, 9] ?_; generalize hK : VS _ _ _ = KK; simp; (try subst hK)))
        | (refine VS.cond ?_; generalize hK1 : VS _ _ _ = KK1; generalize hK2 : VS _ _ _ = KK2; simp (maxSteps := 1000000) [hF, hat]; (try subst hK1); (try subst hK2))
      refine (room_ok L hl 1 (by omega)).call [(0, [])] (by simp) (by simp (maxSteps := 1000000) [hF, dL]) (by simp (maxSteps := 1000000) [hF, dL]) (by simp (maxSteps := 1000000) [hF, dL]) (by simp) ?_
      rintro av X κ ⟨rfl, rfl, rfl⟩
      generalize hK : VS _ _ _ = KK; simp (maxSteps := 1000000) [hF, dL]; (try subst hK)
      by_cases hf : 1000 < L.length + 1
      · have hc : singletonOf L c o = (L, 0, 9) := by unfold singletonOf; rw [if_neg hbad, if_neg hneg, if_pos hf]
        repeat first
          | refine VS.seq ?_
          | (refine VS.keepAt 9 [0, 1, 5, 9] ?_; generalize hK : VS _ _ _ = KK; (try simp); (try subst hK); refine VS.region tabOk (id := 9) [] (by kernel_rfl) ?_; generalize hK : VS _ _ _ = KK; simp (maxSteps := 1000000) [hF, hf]; (try subst hK); try (refine VS.keep [0, 1, 5, 9, 44] ?_; generalize hK : VS _ _ _ = KK; simp; (try subst hK)))
          | (refine VS.keepAt 10 [9] ?_; generalize hK : VS _ _ _ = KK; (try simp); (try subst hK); refine VS.region tabOk (id := 10) [] (by kernel_rfl) ?_; generalize hK : VS _ _ _ = KK; simp (maxSteps := 1000000) [hF, hf]; (try subst hK); try (refine VS.keep [6, 7] ?_; generalize hK : VS _ _ _ = KK; simp; (try subst hK)))
          | (refine VS.cond ?_; generalize hK1 : VS _ _ _ = KK1; generalize hK2 : VS _ _ _ = KK2; simp (maxSteps := 1000000) [hF, hf]; (try subst hK1); (try subst hK2))
        try refine VS.ret ?_
        repeat first | refine blockN_ret ?_ | refine loopN_ret ?_
        refine endK.of [6, 7] [0] [(0, [.d])] (by simp [hF]) (by simp [covers, mpre]) ?_
        simp [hF, retK, dL, hc]
      · have hc : singletonOf L c o = (L ++ [newTh 2 c o], (L.length : Int), 0) := by unfold singletonOf; rw [if_neg hbad, if_neg hneg, if_neg hf]
        repeat first
          | refine VS.seq ?_
          | refine VS.skip ?_
          | (refine VS.keepAt 9 [0, 1, 5, 9] ?_; generalize hK : VS _ _ _ = KK; (try simp); (try subst hK); refine VS.region tabOk (id := 9) [] (by kernel_rfl) ?_; generalize hK : VS _ _ _ = KK; simp (maxSteps := 1000000) [hF, hf]; (try subst hK); try (refine VS.keep [0, 1, 5, 9, 44] ?_; generalize hK : VS _ _ _ = KK; simp; (try subst hK)))
          | (refine VS.keepAt 11 [0, 1, 5] ?_; generalize hK : VS _ _ _ = KK; (try simp); (try subst hK); refine VS.region tabOk (id := 11) [] (by kernel_rfl) ?_; generalize hK : VS _ _ _ = KK; simp (maxSteps := 1000000) [hF, hf]; (try subst hK); try (refine VS.keep [6, 7] ?_; generalize hK : VS _ _ _ = KK; simp; (try subst hK)))
          | (refine VS.cond ?_; generalize hK1 : VS _ _ _ = KK1; generalize hK2 : VS _ _ _ = KK2; simp (maxSteps := 1000000) [hF, hf]; (try subst hK1); (try subst hK2))
        refine (add_ok L (by omega) 2 c o (-1)).call [(0, [])] (by simp) (by simp (maxSteps := 1000000) [hF, dL]) (by simp (maxSteps := 1000000) [hF, dL]) (by simp (maxSteps := 1000000) [hF, dL]) (by simp) ?_
        rintro av X κ ⟨rfl, rfl, rfl⟩
        generalize hK : VS _ _ _ = KK; simp (maxSteps := 1000000) [hF, dL]; (try subst hK)
        try refine VS.ret ?_
        repeat first | refine blockN_ret ?_ | refine loopN_ret ?_
        refine endK.of [6, 7] [0] [(0, [.d])] (by simp [hF]) (by simp [covers, mpre]) ?_
        simp [hF, retK, dL, hc, newTh]
    · obtain ⟨i, hi, he, hp, hall⟩ := ixF_some hat
      have hge : 0 ≤ ixF (isSing o) L := by omega
      have hn := dThs_nth hi
      have hth := thAt_eq hi
      by_cases hs : L[i].sup = c
      · have hc : singletonOf L c o = (L, (i : Int), 0) := by unfold singletonOf; rw [if_neg hbad, if_pos hge, he, hth, if_pos hs]
        repeat first
          | refine VS.seq ?_
          | refine VS.skip ?_
          | (refine VS.keepAt 4 [0, 1, 5, 8] ?_; generalize hK : VS _ _ _ = KK; (try simp); (try subst hK); refine VS.region tabOk (id := 4) [] (by kernel_rfl) ?_; generalize hK : VS _ _ _ = KK; simp (maxSteps := 1000000) [hF, he, hn, hi, hs]; (try subst hK); try (refine VS.keep [0, 1, 5, 8, 29] ?_; generalize hK : VS _ _ _ = KK; simp; (try subst hK)))
          | (refine VS.keepAt 5 [0, 1, 8] ?_; generalize hK : VS _ _ _ = KK; (try simp); (try subst hK); refine VS.region tabOk (id := 5) [] (by kernel_rfl) ?_; generalize hK : VS _ _ _ = KK; simp (maxSteps := 1000000) [hF, he, hn, hi, hs]; (try subst hK); try (refine VS.keep [8, 39] ?_; generalize hK : VS _ _ _ = KK; simp; (try subst hK)))
          | (refine VS.keepAt 7 [8] ?_; generalize hK : VS _ _ _ = KK; (try simp); (try subst hK); refine VS.region tabOk (id := 7) [] (by kernel_rfl) ?_; generalize hK : VS _ _ _ = KK; simp (maxSteps := 1000000) [hF, he, hn, hi, hs]; (try subst hK); try (refine VS.keep [6, 7] ?_; generalize hK : VS _ _ _ = KK; simp; (try subst hK)))
          | (refine VS.cond ?_; generalize hK1 : VS _ _ _ = KK1; generalize hK2 : VS _ _ _ = KK2; simp (maxSteps := 1000000) [hF, he, hn, hi, hs]; (try subst hK1); (try subst hK2))
        try refine VS.ret ?_
        repeat first | refine blockN_ret ?_ | refine loopN_ret ?_
        refine endK.of [6, 7] [0] [(0, [.d])] (by simp [hF]) (by simp [covers, mpre]) ?_
        simp [hF, retK, dL, hc]
      · have hc : singletonOf L c o = (L, 0, 1) := by unfold singletonOf; rw [if_neg hbad, if_pos hge, he, hth, if_neg hs]
        repeat first
          | refine VS.seq ?_
          | (refine VS.keepAt 4 [0, 1, 5, 8] ?_; generalize hK : VS _ _ _ = KK; (try simp); (try subst hK); refine VS.region tabOk (id := 4) [] (by kernel_rfl) ?_; generalize hK : VS _ _ _ = KK; simp (maxSteps := 1000000) [hF, he, hn, hi, hs]; (try subst hK); try (refine VS.keep [0, 1, 5, 8, 29] ?_; generalize hK : VS _ _ _ = KK; simp; (try subst hK)))
          | (refine VS.keepAt 5 [0, 1, 8] ?_; generalize hK : VS _ _ _ = KK; (try simp); (try subst hK); refine VS.region tabOk (id := 5) [] (by kernel_rfl) ?_; generalize hK : VS _ _ _ = KK; simp (maxSteps := 1000000) [hF, he, hn, hi, hs]; (try subst hK); try (refine VS.keep [8, 39] ?_; generalize hK : VS _ _ _ = KK; simp; (try subst hK)))
          | (refine VS.keepAt 6 [] ?_; generalize hK : VS _ _ _ = KK; (try simp); (try subst hK); refine VS.region tabOk (id := 6) [] (by kernel_rfl) ?_; generalize hK : VS _ _ _ = KK; simp (maxSteps := 1000000) [hF, he, hn, hi, hs]; (try subst hK); try (refine VS.keep [6, 7] ?_; generalize hK : VS _ _ _ = KK; simp; (try subst hK)))
          | (refine VS.cond ?_; generalize hK1 : VS _ _ _ = KK1; generalize hK2 : VS _ _ _ = KK2; simp (maxSteps := 1000000) [hF, he, hn, hi, hs]; (try subst hK1); (try subst hK2))
        try refine VS.ret ?_
        repeat first | refine blockN_ret ?_ | refine loopN_ret ?_
        refine endK.of [6, 7] [0] [(0, [.d])] (by simp [hF]) (by simp [covers, mpre]) ?_
        simp [hF, retK, dL, hc]
end Go.Proofs.Ytahgopdamgagkaa

/- The singletons of classes. -/
namespace Go.Proofs.Ytahgopdamgagkaa
set_option linter.all false
open Go.Vc Go.Proofs
set_option linter.unusedSimpArgs false
set_option linter.unusedVariables false
set_option maxRecDepth 100000
set_option maxHeartbeats 4000000
attribute [local irreducible] CallW EqK

/-- How many singletons are missing, up from a thing. -/
def missF : Nat → List Th → Int → Nat
  | 0, _, _ => 0
  | n + 1, L, t => if 0 ≤ (thAt L t).own then 0 else if 0 ≤ (thAt L t).sup then 1 + missF n L (thAt L t).sup else 1
/-- They are made. -/
def mkF : Nat → List Th → Int → List Th × Int
  | 0, L, _ => (L, 0)
  | n + 1, L, t =>
    if 0 ≤ (thAt L t).own then (L, (thAt L t).own)
    else
      let p := if 0 ≤ (thAt L t).sup then mkF n L (thAt L t).sup else (L, 0)
      let q := p.1 ++ [newTh 2 p.2 (-1)]
      (q.set t.toNat { thAt q t with own := (p.1.length : Int) }, (p.1.length : Int))

/-- Superclasses are there, and stand lower. -/
structure Ups (L : List Th) (r : Int → Nat) : Prop where
  up : ∀ (t : Nat) (x : Th), L[t]? = some x → 0 ≤ x.sup → x.sup < L.length ∧ r x.sup < r t
  len : L.length ≤ 1000

/- (*cabochon/lineage.Lineage).missing -/
theorem missing_ok {L : List Th} {r : Int → Nat} (U : Ups L r) : ∀ (n : Nat) (t : Nat), t < L.length → r t < n → n ≤ 100000 → Meets Try.prog 42 [dL L] (.cons (.ptr 0 [.d]) (.cons (avInt t) .nil))
    fun av X κ => (av = avInt (missF n L t) ∧ missF n L t ≤ n) ∧ X = [dL L] ∧ κ = []
  | 0, t, ht, hr, hn => by omega
  | n + 1, t, ht, hr, hn => by
    have hx : L[t]? = some L[t] := List.getElem?_eq_getElem ht
    have hnth := dThs_nth ht
    have hth := thAt_eq ht
    have hup := U.up t _ hx
    have hl := U.len
    refine Meets.of_vs tabOk Try.func42 (body := ?_) ?_ (by kernel_rfl) Try.ntmps42 (rs := [.tmp 4]) (by kernel_rfl) rfl (by simp [AV.len]) (by simp only [envOf]; exact rfl) ?_
    rotate_left
    · rfl
    intro w0 I0 F0 hF
    by_cases h1 : 0 ≤ L[t].own
    · have hm : missF (n + 1) L t = 0 := by unfold missF; rw [hth, if_pos h1]
      repeat first
        | refine VS.seq ?_
        | (refine VS.keepAt 0 [0, 1] ?_; generalize hK : VS _ _ _ = KK; (try simp); (try subst hK); refine VS.region tabOk (id := 0) [] (by kernel_rfl) ?_; generalize hK : VS _ _ _ = KK; simp (maxSteps := 1000000) [hF, dL, hnth, ht, h1]; (try subst hK); try (refine VS.keep [0, 1] ?_; generalize hK : VS _ _ _ = KK; simp; (try subst hK)))
        | (refine VS.keepAt 1 [0, 1] ?_; generalize hK : VS _ _ _ = KK; (try simp); (try subst hK); refine VS.region tabOk (id := 1) [] (by kernel_rfl) ?_; generalize hK : VS _ _ _ = KK; simp (maxSteps := 1000000) [hF, dL, hnth, ht, h1]; (try subst hK); try (refine VS.keep [0, 1, 14] ?_; generalize hK : VS _ _ _ = KK; simp; (try subst hK)))
        | (refine VS.keepAt 2 [] ?_; generalize hK : VS _ _ _ = KK; (try simp); (try subst hK); refine VS.region tabOk (id := 2) [] (by kernel_rfl) ?_; generalize hK : VS _ _ _ = KK; simp (maxSteps := 1000000) [hF, dL, hnth, ht, h1]; (try subst hK); try (refine VS.keep [4] ?_; generalize hK : VS _ _ _ = KK; simp; (try subst hK)))
        | (refine VS.cond ?_; generalize hK1 : VS _ _ _ = KK1; generalize hK2 : VS _ _ _ = KK2; simp (maxSteps := 1000000) [hF, dL, hnth, ht, h1]; (try subst hK1); (try subst hK2))
      try refine VS.ret ?_
      repeat first | refine blockN_ret ?_ | refine loopN_ret ?_
      refine endK.of [4] [0] [] (by simp [hF]) (by simp [covers, mpre]) ?_
      simp [hF, retK, dL, hm]
    · by_cases h2 : 0 ≤ L[t].sup
      · obtain ⟨q1, q2⟩ := hup h2
        obtain ⟨s, hs⟩ : ∃ s : Nat, L[t].sup = s := ⟨L[t].sup.toNat, by omega⟩
        rw [hs] at q1 q2
        have hm : missF (n + 1) L t = 1 + missF n L s := by rw [missF, hth, if_neg h1, if_pos h2, hs]
        have ih := missing_ok U n s (by omega) (by omega) (by omega)
        have hs0 : (0 : Int) ≤ s := by omega
        repeat first
          | refine VS.seq ?_
          | refine VS.skip ?_
          | (refine VS.keepAt 0 [0, 1] ?_; generalize hK : VS _ _ _ = KK; (try simp); (try subst hK); refine VS.region tabOk (id := 0) [] (by kernel_rfl) ?_; generalize hK : VS _ _ _ = KK; simp (maxSteps := 1000000) [hF, dL, hnth, ht, h1, hs, hs0]; (try subst hK); try (refine VS.keep [0, 1] ?_; generalize hK : VS _ _ _ = KK; simp; (try subst hK)))
          | (refine VS.keepAt 1 [0, 1] ?_; generalize hK : VS _ _ _ = KK; (try simp); (try subst hK); refine VS.region tabOk (id := 1) [] (by kernel_rfl) ?_; generalize hK : VS _ _ _ = KK; simp (maxSteps := 1000000) [hF, dL, hnth, ht, h1, hs, hs0]; (try subst hK); try (refine VS.keep [0, 1, 14] ?_; generalize hK : VS _ _ _ = KK; simp; (try subst hK)))
          | (refine VS.keepAt 3 [0, 1] ?_; generalize hK : VS _ _ _ = KK; (try simp); (try subst hK); refine VS.region tabOk (id := 3) [] (by kernel_rfl) ?_; generalize hK : VS _ _ _ = KK; simp (maxSteps := 1000000) [hF, dL, hnth, ht, h1, hs, hs0]; (try subst hK); try (refine VS.keep [0, 5] ?_; generalize hK : VS _ _ _ = KK; simp; (try subst hK)))
          | (refine VS.keepAt 4 [0, 5] ?_; generalize hK : VS _ _ _ = KK; (try simp); (try subst hK); refine VS.region tabOk (id := 4) [] (by kernel_rfl) ?_; generalize hK : VS _ _ _ = KK; simp (maxSteps := 1000000) [hF, dL, hnth, ht, h1, hs, hs0]; (try subst hK); try (refine VS.keep [0, 5, 24] ?_; generalize hK : VS _ _ _ = KK; simp; (try subst hK)))
          | (refine VS.keepAt 5 [0, 5] ?_; generalize hK : VS _ _ _ = KK; (try simp); (try subst hK); refine VS.region tabOk (id := 5) [] (by kernel_rfl) ?_; generalize hK : VS _ _ _ = KK; simp (maxSteps := 1000000) [hF, dL, hnth, ht, h1, hs, hs0]; (try subst hK); try (refine VS.keep [4] ?_; generalize hK : VS _ _ _ = KK; simp; (try subst hK)))
          | (refine VS.cond ?_; generalize hK1 : VS _ _ _ = KK1; generalize hK2 : VS _ _ _ = KK2; simp (maxSteps := 1000000) [hF, dL, hnth, ht, h1, hs, hs0]; (try subst hK1); (try subst hK2))
        refine (ih).call [(0, [])] (by simp) (by simp (maxSteps := 1000000) [hF, dL]) (by simp (maxSteps := 1000000) [hF, dL]) (by simp (maxSteps := 1000000) [hF, dL]) (by simp) ?_
        rintro av X κ ⟨⟨rfl, hle⟩, rfl, rfl⟩
        generalize hK : VS _ _ _ = KK; simp (maxSteps := 1000000) [hF, dL]; (try subst hK)
        have hw : IntKind.i64.wrap (1 + (missF n L s : Int)) = 1 + (missF n L s : Int) := IntWalk.i64_in _ (by omega)
        try refine VS.ret ?_
        repeat first | refine blockN_ret ?_ | refine loopN_ret ?_
        refine endK.of [4] [0] [] (by simp [hF]) (by simp [covers, mpre]) ?_
        simp [hF, retK, dL, hm, hw]
        omega
      · have hm : missF (n + 1) L t = 1 := by rw [missF, hth, if_neg h1, if_neg h2]
        repeat first
          | refine VS.seq ?_
          | refine VS.skip ?_
          | (refine VS.keepAt 0 [0, 1] ?_; generalize hK : VS _ _ _ = KK; (try simp); (try subst hK); refine VS.region tabOk (id := 0) [] (by kernel_rfl) ?_; generalize hK : VS _ _ _ = KK; simp (maxSteps := 1000000) [hF, dL, hnth, ht, h1, h2]; (try subst hK); try (refine VS.keep [0, 1] ?_; generalize hK : VS _ _ _ = KK; simp; (try subst hK)))
          | (refine VS.keepAt 1 [0, 1] ?_; generalize hK : VS _ _ _ = KK; (try simp); (try subst hK); refine VS.region tabOk (id := 1) [] (by kernel_rfl) ?_; generalize hK : VS _ _ _ = KK; simp (maxSteps := 1000000) [hF, dL, hnth, ht, h1, h2]; (try subst hK); try (refine VS.keep [0, 1, 14] ?_; generalize hK : VS _ _ _ = KK; simp; (try subst hK)))
          | (refine VS.keepAt 3 [0, 1] ?_; generalize hK : VS _ _ _ = KK; (try simp); (try subst hK); refine VS.region tabOk (id := 3) [] (by kernel_rfl) ?_; generalize hK : VS _ _ _ = KK; simp (maxSteps := 1000000) [hF, dL, hnth, ht, h1, h2]; (try subst hK); try (refine VS.keep [0, 5] ?_; generalize hK : VS _ _ _ = KK; simp; (try subst hK)))
          | (refine VS.keepAt 4 [0, 5] ?_; generalize hK : VS _ _ _ = KK; (try simp); (try subst hK); refine VS.region tabOk (id := 4) [] (by kernel_rfl) ?_; generalize hK : VS _ _ _ = KK; simp (maxSteps := 1000000) [hF, dL, hnth, ht, h1, h2]; (try subst hK); try (refine VS.keep [0, 5, 24] ?_; generalize hK : VS _ _ _ = KK; simp; (try subst hK)))
          | (refine VS.keepAt 6 [] ?_; generalize hK : VS _ _ _ = KK; (try simp); (try subst hK); refine VS.region tabOk (id := 6) [] (by kernel_rfl) ?_; generalize hK : VS _ _ _ = KK; simp (maxSteps := 1000000) [hF, dL, hnth, ht, h1, h2]; (try subst hK); try (refine VS.keep [4] ?_; generalize hK : VS _ _ _ = KK; simp; (try subst hK)))
          | (refine VS.cond ?_; generalize hK1 : VS _ _ _ = KK1; generalize hK2 : VS _ _ _ = KK2; simp (maxSteps := 1000000) [hF, dL, hnth, ht, h1, h2]; (try subst hK1); (try subst hK2))
        try refine VS.ret ?_
        repeat first | refine blockN_ret ?_ | refine loopN_ret ?_
        refine endK.of [4] [0] [] (by simp [hF]) (by simp [covers, mpre]) ?_
        simp [hF, retK, dL, hm]

theorem mkF_len : ∀ (n : Nat) (L : List Th) (t : Int), (mkF n L t).1.length = L.length + missF n L t
  | 0, L, t => by simp [mkF, missF]
  | n + 1, L, t => by
    unfold mkF missF
    by_cases h1 : 0 ≤ (thAt L t).own
    · rw [if_pos h1, if_pos h1]; simp
    · rw [if_neg h1, if_neg h1]
      by_cases h2 : 0 ≤ (thAt L t).sup
      · simp only [if_pos h2, List.length_set, List.length_append, mkF_len n, List.length_singleton]; omega
      · simp only [if_neg h2, List.length_set, List.length_append, List.length_singleton]

/- (*cabochon/lineage.Lineage).make -/
theorem make_ok {L : List Th} {r : Int → Nat} (U : Ups L r) : ∀ (n : Nat) (t : Nat), t < L.length → r t < n → L.length + missF n L t ≤ 1000 → Meets Try.prog 43 [dL L] (.cons (.ptr 0 [.d]) (.cons (avInt t) .nil))
    fun av X κ => av = avInt (mkF n L t).2 ∧ X = [dL (mkF n L t).1] ∧ κ = [(0, [.d])]
  | 0, t, ht, hr, hn => by omega
  | n + 1, t, ht, hr, hroom => by
    have hx : L[t]? = some L[t] := List.getElem?_eq_getElem ht
    have hnth := dThs_nth ht
    have hth := thAt_eq ht
    have hup := U.up t _ hx
    have hl := U.len
    refine Meets.of_vs tabOk Try.func43 (body := ?_) ?_ (by kernel_rfl) Try.ntmps43 (rs := [.tmp 4]) (by kernel_rfl) rfl (by simp [AV.len]) (by simp only [envOf]; exact rfl) ?_
    rotate_left
    · rfl
    intro w0 I0 F0 hF
    by_cases h1 : 0 ≤ L[t].own
    · have hm : mkF (n + 1) L t = (L, L[t].own) := by unfold mkF; rw [hth, if_pos h1]
      repeat first
        | refine VS.seq ?_
        | (refine VS.keepAt 0 [0, 1] ?_; generalize hK : VS _ _ _ = KK; (try simp); (try subst hK); refine VS.region tabOk (id := 0) [] (by kernel_rfl) ?_; generalize hK : VS _ _ _ = KK; simp (maxSteps := 1000000) [hF, dL, hnth, ht, h1]; (try subst hK); try (refine VS.keep [0, 1] ?_; generalize hK : VS _ _ _ = KK; simp; (try subst hK)))
        | (refine VS.keepAt 1 [0, 1] ?_; generalize hK : VS _ _ _ = KK; (try simp); (try subst hK); refine VS.region tabOk (id := 1) [] (by kernel_rfl) ?_; generalize hK : VS _ _ _ = KK; simp (maxSteps := 1000000) [hF, dL, hnth, ht, h1]; (try subst hK); try (refine VS.keep [0, 1, 5] ?_; generalize hK : VS _ _ _ = KK; simp; (try subst hK)))
        | (refine VS.keepAt 2 [0, 1, 5] ?_; generalize hK : VS _ _ _ = KK; (try simp); (try subst hK); refine VS.region tabOk (id := 2) [] (by kernel_rfl) ?_; generalize hK : VS _ _ _ = KK; simp (maxSteps := 1000000) [hF, dL, hnth, ht, h1]; (try subst hK); try (refine VS.keep [0, 1, 5, 18] ?_; generalize hK : VS _ _ _ = KK; simp; (try subst hK)))
        | (refine VS.keepAt 3 [5] ?_; generalize hK : VS _ _ _ = KK; (try simp); (try subst hK); refine VS.region tabOk (id := 3) [] (by kernel_rfl) ?_; generalize hK : VS _ _ _ = KK; simp (maxSteps := 1000000) [hF, dL, hnth, ht, h1]; (try subst hK); try (refine VS.keep [4] ?_; generalize hK : VS _ _ _ = KK; simp; (try subst hK)))
        | (refine VS.cond ?_; generalize hK1 : VS _ _ _ = KK1; generalize hK2 : VS _ _ _ = KK2; simp (maxSteps := 1000000) [hF, dL, hnth, ht, h1]; (try subst hK1); (try subst hK2))
      try refine VS.ret ?_
      repeat first | refine blockN_ret ?_ | refine loopN_ret ?_
      refine endK.of [4] [0] [(0, [.d])] (by simp [hF]) (by simp [covers, mpre]) ?_
      simp [hF, retK, dL, hm]
    · by_cases h2 : 0 ≤ L[t].sup
      · obtain ⟨q1, q2⟩ := hup h2
        obtain ⟨s, hs⟩ : ∃ s : Nat, L[t].sup = s := ⟨L[t].sup.toNat, by omega⟩
        rw [hs] at q1 q2
        have hms : missF (n + 1) L t = 1 + missF n L s := by rw [missF, hth, if_neg h1, if_pos (by omega), hs]
        have ih := make_ok U n s (by omega) (by omega) (by omega)
        have hs0 : (0 : Int) ≤ s := by omega
        have hpl := mkF_len n L s
        have hm : mkF (n + 1) L t = (((mkF n L s).1 ++ [newTh 2 (mkF n L s).2 (-1)]).set t { thAt ((mkF n L s).1 ++ [newTh 2 (mkF n L s).2 (-1)]) t with own := ((mkF n L s).1.length : Int) }, ((mkF n L s).1.length : Int)) := by
          rw [mkF, hth, if_neg h1]
          simp only [hs, hs0, if_true, Int.toNat_natCast]
        repeat first
          | refine VS.seq ?_
          | refine VS.skip ?_
          | (refine VS.keepAt 0 [0, 1] ?_; generalize hK : VS _ _ _ = KK; (try simp); (try subst hK); refine VS.region tabOk (id := 0) [] (by kernel_rfl) ?_; generalize hK : VS _ _ _ = KK; simp (maxSteps := 1000000) [hF, dL, hnth, ht, h1, hs, hs0]; (try subst hK); try (refine VS.keep [0, 1] ?_; generalize hK : VS _ _ _ = KK; simp; (try subst hK)))
          | (refine VS.keepAt 1 [0, 1] ?_; generalize hK : VS _ _ _ = KK; (try simp); (try subst hK); refine VS.region tabOk (id := 1) [] (by kernel_rfl) ?_; generalize hK : VS _ _ _ = KK; simp (maxSteps := 1000000) [hF, dL, hnth, ht, h1, hs, hs0]; (try subst hK); try (refine VS.keep [0, 1, 5] ?_; generalize hK : VS _ _ _ = KK; simp; (try subst hK)))
          | (refine VS.keepAt 2 [0, 1, 5] ?_; generalize hK : VS _ _ _ = KK; (try simp); (try subst hK); refine VS.region tabOk (id := 2) [] (by kernel_rfl) ?_; generalize hK : VS _ _ _ = KK; simp (maxSteps := 1000000) [hF, dL, hnth, ht, h1, hs, hs0]; (try subst hK); try (refine VS.keep [0, 1, 5, 18] ?_; generalize hK : VS _ _ _ = KK; simp; (try subst hK)))
          | (refine VS.keepAt 4 [0, 1] ?_; generalize hK : VS _ _ _ = KK; (try simp); (try subst hK); refine VS.region tabOk (id := 4) [] (by kernel_rfl) ?_; generalize hK : VS _ _ _ = KK; simp (maxSteps := 1000000) [hF, dL, hnth, ht, h1, hs, hs0]; (try subst hK); try (refine VS.keep [0, 1, 6] ?_; generalize hK : VS _ _ _ = KK; simp; (try subst hK)))
          | (refine VS.keepAt 5 [0, 1, 6] ?_; generalize hK : VS _ _ _ = KK; (try simp); (try subst hK); refine VS.region tabOk (id := 5) [] (by kernel_rfl) ?_; generalize hK : VS _ _ _ = KK; simp (maxSteps := 1000000) [hF, dL, hnth, ht, h1, hs, hs0]; (try subst hK); try (refine VS.keep [0, 1, 6, 7] ?_; generalize hK : VS _ _ _ = KK; simp; (try subst hK)))
          | (refine VS.keepAt 6 [0, 1, 6, 7] ?_; generalize hK : VS _ _ _ = KK; (try simp); (try subst hK); refine VS.region tabOk (id := 6) [] (by kernel_rfl) ?_; generalize hK : VS _ _ _ = KK; simp (maxSteps := 1000000) [hF, dL, hnth, ht, h1, hs, hs0]; (try subst hK); try (refine VS.keep [0, 1, 6, 7, 29] ?_; generalize hK : VS _ _ _ = KK; simp; (try subst hK)))
          | (refine VS.keepAt 7 [0, 1, 7] ?_; generalize hK : VS _ _ _ = KK; (try simp); (try subst hK); refine VS.region tabOk (id := 7) [] (by kernel_rfl) ?_; generalize hK : VS _ _ _ = KK; simp (maxSteps := 1000000) [hF, dL, hnth, ht, h1, hs, hs0]; (try subst hK); try (refine VS.keep [0, 1, 6] ?_; generalize hK : VS _ _ _ = KK; simp; (try subst hK)))
          | (refine VS.cond ?_; generalize hK1 : VS _ _ _ = KK1; generalize hK2 : VS _ _ _ = KK2; simp (maxSteps := 1000000) [hF, dL, hnth, ht, h1, hs, hs0]; (try subst hK1); (try subst hK2))
        refine (ih).call [(0, [])] (by simp) (by simp (maxSteps := 1000000) [hF, dL]) (by simp (maxSteps := 1000000) [hF, dL]) (by simp (maxSteps := 1000000) [hF, dL]) (by simp) ?_
        rintro av X κ ⟨rfl, rfl, rfl⟩
        generalize hK : VS _ _ _ = KK; simp (maxSteps := 1000000) [hF, dL]; (try subst hK)
        generalize mkF n L s = p at *
        obtain ⟨L1, w⟩ := p
        simp only at hpl hm
        have htq : t < (L1 ++ [newTh 2 w (-1)]).length := by simp; omega
        have htq2 : t < L1.length + 1 := by omega
        have hnq := dThs_nth htq
        have hthq := thAt_eq htq
        rw [hthq] at hm
        have hset := dThs_set (L1 ++ [newTh 2 w (-1)]) t { (L1 ++ [newTh 2 w (-1)])[t] with own := (L1.length : Int) }
        repeat first
          | refine VS.seq ?_
          | (refine VS.keepAt 8 [0, 1, 6] ?_; generalize hK : VS _ _ _ = KK; (try simp); (try subst hK); refine VS.region tabOk (id := 8) [] (by kernel_rfl) ?_; generalize hK : VS _ _ _ = KK; simp (maxSteps := 1000000) [hF]; (try subst hK); try (refine VS.keep [0, 1, 8] ?_; generalize hK : VS _ _ _ = KK; simp; (try subst hK)))
        refine (add_ok L1 (by omega) 2 w (-1) (-1)).call [(0, [])] (by simp) (by simp (maxSteps := 1000000) [hF, dL]) (by simp (maxSteps := 1000000) [hF, dL]) (by simp (maxSteps := 1000000) [hF, dL]) (by simp) ?_
        rintro av X κ ⟨rfl, rfl, rfl⟩
        generalize hK : VS _ _ _ = KK; simp (maxSteps := 1000000) [hF, dL]; (try subst hK)
        generalize hq : (L1 ++ [newTh 2 w (-1)]) = q at *
        have hq' : (L1 ++ [⟨2, w, -1, -1, [], []⟩]) = q := hq
        repeat first
          | refine VS.seq ?_
          | (refine VS.keepAt 9 [0, 1, 8] ?_; generalize hK : VS _ _ _ = KK; (try simp); (try subst hK); refine VS.region tabOk (id := 9) [] (by kernel_rfl) ?_; generalize hK : VS _ _ _ = KK; simp (maxSteps := 1000000) [hF, hq', hnq, htq, hset]; (try subst hK); try (refine VS.keep [8] ?_; generalize hK : VS _ _ _ = KK; simp; (try subst hK)))
          | (refine VS.keepAt 10 [8] ?_; generalize hK : VS _ _ _ = KK; (try simp); (try subst hK); refine VS.region tabOk (id := 10) [] (by kernel_rfl) ?_; generalize hK : VS _ _ _ = KK; simp (maxSteps := 1000000) [hF, hq', hnq, htq, hset]; (try subst hK); try (refine VS.keep [4] ?_; generalize hK : VS _ _ _ = KK; simp; (try subst hK)))
        try refine VS.ret ?_
        repeat first | refine blockN_ret ?_ | refine loopN_ret ?_
        refine endK.of [4] [0] [(0, [.d])] (by simp [hF]) (by simp [covers, mpre]) ?_
        simp [hF, retK, dL, hm]
      · have hms : missF (n + 1) L t = 1 := by rw [missF, hth, if_neg h1, if_neg h2]
        have hm : mkF (n + 1) L t = ((L ++ [newTh 2 0 (-1)]).set t { thAt (L ++ [newTh 2 0 (-1)]) t with own := (L.length : Int) }, (L.length : Int)) := by
          rw [mkF, hth, if_neg h1]
          simp only [h2, if_false, Int.toNat_natCast]
        have htq : t < (L ++ [newTh 2 0 (-1)]).length := by simp; omega
        have hnq := dThs_nth htq
        have hthq := thAt_eq htq
        rw [hthq] at hm
        have hset := dThs_set (L ++ [newTh 2 0 (-1)]) t { (L ++ [newTh 2 0 (-1)])[t] with own := (L.length : Int) }
        repeat first
          | refine VS.seq ?_
          | refine VS.skip ?_
          | (refine VS.keepAt 0 [0, 1] ?_; generalize hK : VS _ _ _ = KK; (try simp); (try subst hK); refine VS.region tabOk (id := 0) [] (by kernel_rfl) ?_; generalize hK : VS _ _ _ = KK; simp (maxSteps := 1000000) [hF, dL, hnth, ht, h1, h2]; (try subst hK); try (refine VS.keep [0, 1] ?_; generalize hK : VS _ _ _ = KK; simp; (try subst hK)))
          | (refine VS.keepAt 1 [0, 1] ?_; generalize hK : VS _ _ _ = KK; (try simp); (try subst hK); refine VS.region tabOk (id := 1) [] (by kernel_rfl) ?_; generalize hK : VS _ _ _ = KK; simp (maxSteps := 1000000) [hF, dL, hnth, ht, h1, h2]; (try subst hK); try (refine VS.keep [0, 1, 5] ?_; generalize hK : VS _ _ _ = KK; simp; (try subst hK)))
          | (refine VS.keepAt 2 [0, 1, 5] ?_; generalize hK : VS _ _ _ = KK; (try simp); (try subst hK); refine VS.region tabOk (id := 2) [] (by kernel_rfl) ?_; generalize hK : VS _ _ _ = KK; simp (maxSteps := 1000000) [hF, dL, hnth, ht, h1, h2]; (try subst hK); try (refine VS.keep [0, 1, 5, 18] ?_; generalize hK : VS _ _ _ = KK; simp; (try subst hK)))
          | (refine VS.keepAt 4 [0, 1] ?_; generalize hK : VS _ _ _ = KK; (try simp); (try subst hK); refine VS.region tabOk (id := 4) [] (by kernel_rfl) ?_; generalize hK : VS _ _ _ = KK; simp (maxSteps := 1000000) [hF, dL, hnth, ht, h1, h2]; (try subst hK); try (refine VS.keep [0, 1, 6] ?_; generalize hK : VS _ _ _ = KK; simp; (try subst hK)))
          | (refine VS.keepAt 5 [0, 1, 6] ?_; generalize hK : VS _ _ _ = KK; (try simp); (try subst hK); refine VS.region tabOk (id := 5) [] (by kernel_rfl) ?_; generalize hK : VS _ _ _ = KK; simp (maxSteps := 1000000) [hF, dL, hnth, ht, h1, h2]; (try subst hK); try (refine VS.keep [0, 1, 6, 7] ?_; generalize hK : VS _ _ _ = KK; simp; (try subst hK)))
          | (refine VS.keepAt 6 [0, 1, 6, 7] ?_; generalize hK : VS _ _ _ = KK; (try simp); (try subst hK); refine VS.region tabOk (id := 6) [] (by kernel_rfl) ?_; generalize hK : VS _ _ _ = KK; simp (maxSteps := 1000000) [hF, dL, hnth, ht, h1, h2]; (try subst hK); try (refine VS.keep [0, 1, 6, 7, 29] ?_; generalize hK : VS _ _ _ = KK; simp; (try subst hK)))
          | (refine VS.keepAt 8 [0, 1, 6] ?_; generalize hK : VS _ _ _ = KK; (try simp); (try subst hK); refine VS.region tabOk (id := 8) [] (by kernel_rfl) ?_; generalize hK : VS _ _ _ = KK; simp (maxSteps := 1000000) [hF, dL, hnth, ht, h1, h2]; (try subst hK); try (refine VS.keep [0, 1, 8] ?_; generalize hK : VS _ _ _ = KK; simp; (try subst hK)))
          | (refine VS.cond ?_; generalize hK1 : VS _ _ _ = KK1; generalize hK2 : VS _ _ _ = KK2; simp (maxSteps := 1000000) [hF, dL, hnth, ht, h1, h2]; (try subst hK1); (try subst hK2))
        refine (add_ok L (by omega) 2 0 (-1) (-1)).call [(0, [])] (by simp) (by simp (maxSteps := 1000000) [hF, dL]) (by simp (maxSteps := 1000000) [hF, dL]) (by simp (maxSteps := 1000000) [hF, dL]) (by simp) ?_
        rintro av X κ ⟨rfl, rfl, rfl⟩
        generalize hK : VS _ _ _ = KK; simp (maxSteps := 1000000) [hF, dL]; (try subst hK)
        generalize hq : (L ++ [newTh 2 0 (-1)]) = q at *
        have hq' : (L ++ [⟨2, 0, -1, -1, [], []⟩]) = q := hq
        repeat first
          | refine VS.seq ?_
          | (refine VS.keepAt 9 [0, 1, 8] ?_; generalize hK : VS _ _ _ = KK; (try simp); (try subst hK); refine VS.region tabOk (id := 9) [] (by kernel_rfl) ?_; generalize hK : VS _ _ _ = KK; simp (maxSteps := 1000000) [hF, hq', hnq, htq, hset]; (try subst hK); try (refine VS.keep [8] ?_; generalize hK : VS _ _ _ = KK; simp; (try subst hK)))
          | (refine VS.keepAt 10 [8] ?_; generalize hK : VS _ _ _ = KK; (try simp); (try subst hK); refine VS.region tabOk (id := 10) [] (by kernel_rfl) ?_; generalize hK : VS _ _ _ = KK; simp (maxSteps := 1000000) [hF, hq', hnq, htq, hset]; (try subst hK); try (refine VS.keep [4] ?_; generalize hK : VS _ _ _ = KK; simp; (try subst hK)))
        try refine VS.ret ?_
        repeat first | refine blockN_ret ?_ | refine loopN_ret ?_
        refine endK.of [4] [0] [(0, [.d])] (by simp [hF]) (by simp [covers, mpre]) ?_
        simp [hF, retK, dL, hm]

def ownOf (L : List Th) (t : Int) : List Th × Int × Int :=
  if val L t = false ∨ (thAt L t).kind = 2 then (L, 0, 1)
  else if 1000 < L.length + missF 1001 L t then (L, 0, 9) else ((mkF 1001 L t).1, (mkF 1001 L t).2, 0)

/- (*cabochon/lineage.Lineage).Own -/
theorem own_ok {L : List Th} {r : Int → Nat} (U : Ups L r) (hr : ∀ t, r t ≤ 1000) (t : Int) : Meets Try.prog 25 [dL L] (.cons (.ptr 0 [.d]) (.cons (avInt t) .nil))
    fun av X κ => av = two (ownOf L t).2 ∧ X = [dL (ownOf L t).1] ∧ κ = [(0, [.d])] := by
  have hl := U.len
  refine Meets.of_vs tabOk Try.func25 (body := ?_) ?_ (by kernel_rfl) Try.ntmps25 (rs := [.tmp 4, .tmp 5]) (by kernel_rfl) rfl (by simp [AV.len]) (by simp only [envOf]; exact rfl) ?_
  rotate_left
  · rfl
  intro w0 I0 F0 hF
  repeat first
    | refine VS.seq ?_
    | (refine VS.keepAt 0 [0, 1] ?_; generalize hK : VS _ _ _ = KK; (try simp); (try subst hK); refine VS.region tabOk (id := 0) [] (by kernel_rfl) ?_; generalize hK : VS _ _ _ = KK; simp (maxSteps := 1000000) [hF]; (try subst hK); try (refine VS.keep [0, 1] ?_; generalize hK : VS _ _ _ = KK; simp; (try subst hK)))
    | (refine VS.keepAt 1 [0, 1] ?_; generalize hK : VS _ _ _ = KK; (try simp); (try subst hK); refine VS.region tabOk (id := 1) [(4, 11)] (by kernel_rfl) ?_; generalize hK : VS _ _ _ = KK; simp (maxSteps := 1000000) [hF]; (try subst hK); try (refine VS.keep [0, 1, 21] ?_; generalize hK : VS _ _ _ = KK; simp; (try subst hK)))
  cases hv : val L t with
  | false =>
    have hc : ownOf L t = (L, 0, 1) := by unfold ownOf; rw [if_pos (.inl hv)]
    refine (is_ok L hl t).call [(0, [])] (by simp) (by simp (maxSteps := 1000000) [hF, dL, hv]) (by simp (maxSteps := 1000000) [hF, dL, hv]) (by simp (maxSteps := 1000000) [hF, dL, hv]) (by simp) ?_
    rintro av X κ ⟨rfl, rfl, rfl⟩
    generalize hK : VS _ _ _ = KK; simp (maxSteps := 1000000) [hF, dL, hv]; (try subst hK)
    repeat first
      | refine VS.seq ?_
      | (refine VS.keepAt 2 [] ?_; generalize hK : VS _ _ _ = KK; (try simp); (try subst hK); refine VS.region tabOk (id := 2) [] (by kernel_rfl) ?_; generalize hK : VS _ _ _ = KK; simp (maxSteps := 1000000) [hF]; (try subst hK); try (refine VS.keep [4, 5] ?_; generalize hK : VS _ _ _ = KK; simp; (try subst hK)))
      | (refine VS.cond ?_; generalize hK1 : VS _ _ _ = KK1; generalize hK2 : VS _ _ _ = KK2; simp (maxSteps := 1000000) [hF]; (try subst hK1); (try subst hK2))
    try refine VS.ret ?_
    repeat first | refine blockN_ret ?_ | refine loopN_ret ?_
    refine endK.of [4, 5] [0] [(0, [.d])] (by simp [hF]) (by simp [covers, mpre]) ?_
    simp [hF, retK, dL, hc]
  | true =>
    obtain ⟨t, rfl, ht⟩ := val_nat hv
    have hn := dThs_nth ht
    have hth := thAt_eq ht
    by_cases h2 : L[t].kind = 2
    · have hc : ownOf L t = (L, 0, 1) := by unfold ownOf; rw [if_pos (.inr (by rw [hth]; exact h2))]
      refine (is_ok L hl t).call [(0, [])] (by simp) (by simp (maxSteps := 1000000) [hF, dL, hv, hn, ht, h2]) (by simp (maxSteps := 1000000) [hF, dL, hv, hn, ht, h2]) (by simp (maxSteps := 1000000) [hF, dL, hv, hn, ht, h2]) (by simp) ?_
      rintro av X κ ⟨rfl, rfl, rfl⟩
      generalize hK : VS _ _ _ = KK; simp (maxSteps := 1000000) [hF, dL, hv, hn, ht, h2]; (try subst hK)
      repeat first
        | refine VS.seq ?_
        | (refine VS.keepAt 2 [] ?_; generalize hK : VS _ _ _ = KK; (try simp); (try subst hK); refine VS.region tabOk (id := 2) [] (by kernel_rfl) ?_; generalize hK : VS _ _ _ = KK; simp (maxSteps := 1000000) [hF]; (try subst hK); try (refine VS.keep [4, 5] ?_; generalize hK : VS _ _ _ = KK; simp; (try subst hK)))
        | (refine VS.cond ?_; generalize hK1 : VS _ _ _ = KK1; generalize hK2 : VS _ _ _ = KK2; simp (maxSteps := 1000000) [hF]; (try subst hK1); (try subst hK2))
      try refine VS.ret ?_
      repeat first | refine blockN_ret ?_ | refine loopN_ret ?_
      refine endK.of [4, 5] [0] [(0, [.d])] (by simp [hF]) (by simp [covers, mpre]) ?_
      simp [hF, retK, dL, hc]
    · have hnot : ¬ (val L t = false ∨ (thAt L t).kind = 2) := by rw [hv, hth]; simp [h2]
      have hrt := hr t
      refine (is_ok L hl t).call [(0, [])] (by simp) (by simp (maxSteps := 1000000) [hF, dL, hv, hn, ht, h2]) (by simp (maxSteps := 1000000) [hF, dL, hv, hn, ht, h2]) (by simp (maxSteps := 1000000) [hF, dL, hv, hn, ht, h2]) (by simp) ?_
      rintro av X κ ⟨rfl, rfl, rfl⟩
      generalize hK : VS _ _ _ = KK; simp (maxSteps := 1000000) [hF, dL, hv, hn, ht, h2]; (try subst hK)
      repeat first
        | refine VS.seq ?_
        | refine VS.skip ?_
        | (refine VS.keepAt 3 [0, 1] ?_; generalize hK : VS _ _ _ = KK; (try simp); (try subst hK); refine VS.region tabOk (id := 3) [] (by kernel_rfl) ?_; generalize hK : VS _ _ _ = KK; simp (maxSteps := 1000000) [hF]; (try subst hK); try (refine VS.keep [0, 1, 6] ?_; generalize hK : VS _ _ _ = KK; simp; (try subst hK)))
        | (refine VS.cond ?_; generalize hK1 : VS _ _ _ = KK1; generalize hK2 : VS _ _ _ = KK2; simp (maxSteps := 1000000) [hF]; (try subst hK1); (try subst hK2))
      refine (missing_ok U 1001 t ht (by omega) (by omega)).call [(0, [])] (by simp) (by simp (maxSteps := 1000000) [hF, dL]) (by simp (maxSteps := 1000000) [hF, dL]) (by simp (maxSteps := 1000000) [hF, dL]) (by simp) ?_
      rintro av X κ ⟨⟨rfl, hle⟩, rfl, rfl⟩
      generalize hK : VS _ _ _ = KK; simp (maxSteps := 1000000) [hF, dL]; (try subst hK)
      refine (room_ok L hl (missF 1001 L t) (by omega)).call [(0, [])] (by simp) (by simp (maxSteps := 1000000) [hF, dL]) (by simp (maxSteps := 1000000) [hF, dL]) (by simp (maxSteps := 1000000) [hF, dL]) (by simp) ?_
      rintro av X κ ⟨rfl, rfl, rfl⟩
      generalize hK : VS _ _ _ = KK; simp (maxSteps := 1000000) [hF, dL]; (try subst hK)
      by_cases hf : 1000 < L.length + missF 1001 L t
      · have hc : ownOf L t = (L, 0, 9) := by unfold ownOf; rw [if_neg hnot, if_pos hf]
        repeat first
          | refine VS.seq ?_
          | (refine VS.keepAt 4 [0, 1, 6] ?_; generalize hK : VS _ _ _ = KK; (try simp); (try subst hK); refine VS.region tabOk (id := 4) [] (by kernel_rfl) ?_; generalize hK : VS _ _ _ = KK; simp (maxSteps := 1000000) [hF, hf]; (try subst hK); try (refine VS.keep [0, 1, 6, 28] ?_; generalize hK : VS _ _ _ = KK; simp; (try subst hK)))
          | (refine VS.keepAt 5 [6] ?_; generalize hK : VS _ _ _ = KK; (try simp); (try subst hK); refine VS.region tabOk (id := 5) [] (by kernel_rfl) ?_; generalize hK : VS _ _ _ = KK; simp (maxSteps := 1000000) [hF, hf]; (try subst hK); try (refine VS.keep [4, 5] ?_; generalize hK : VS _ _ _ = KK; simp; (try subst hK)))
          | (refine VS.cond ?_; generalize hK1 : VS _ _ _ = KK1; generalize hK2 : VS _ _ _ = KK2; simp (maxSteps := 1000000) [hF, hf]; (try subst hK1); (try subst hK2))
        try refine VS.ret ?_
        repeat first | refine blockN_ret ?_ | refine loopN_ret ?_
        refine endK.of [4, 5] [0] [(0, [.d])] (by simp [hF]) (by simp [covers, mpre]) ?_
        simp [hF, retK, dL, hc]
      · have hc : ownOf L t = ((mkF 1001 L t).1, (mkF 1001 L t).2, 0) := by unfold ownOf; rw [if_neg hnot, if_neg hf]
        repeat first
          | refine VS.seq ?_
          | refine VS.skip ?_
          | (refine VS.keepAt 4 [0, 1, 6] ?_; generalize hK : VS _ _ _ = KK; (try simp); (try subst hK); refine VS.region tabOk (id := 4) [] (by kernel_rfl) ?_; generalize hK : VS _ _ _ = KK; simp (maxSteps := 1000000) [hF, hf]; (try subst hK); try (refine VS.keep [0, 1, 6, 28] ?_; generalize hK : VS _ _ _ = KK; simp; (try subst hK)))
          | (refine VS.keepAt 6 [0, 1] ?_; generalize hK : VS _ _ _ = KK; (try simp); (try subst hK); refine VS.region tabOk (id := 6) [] (by kernel_rfl) ?_; generalize hK : VS _ _ _ = KK; simp (maxSteps := 1000000) [hF, hf]; (try subst hK); try (refine VS.keep [4, 5] ?_; generalize hK : VS _ _ _ = KK; simp; (try subst hK)))
          | (refine VS.cond ?_; generalize hK1 : VS _ _ _ = KK1; generalize hK2 : VS _ _ _ = KK2; simp (maxSteps := 1000000) [hF, hf]; (try subst hK1); (try subst hK2))
        refine (make_ok U 1001 t ht (by omega) (by omega)).call [(0, [])] (by simp) (by simp (maxSteps := 1000000) [hF, dL]) (by simp (maxSteps := 1000000) [hF, dL]) (by simp (maxSteps := 1000000) [hF, dL]) (by simp) ?_
        rintro av X κ ⟨rfl, rfl, rfl⟩
        generalize hK : VS _ _ _ = KK; simp (maxSteps := 1000000) [hF, dL]; (try subst hK)
        try refine VS.ret ?_
        repeat first | refine blockN_ret ?_ | refine loopN_ret ?_
        refine endK.of [4, 5] [0] [(0, [.d])] (by simp [hF]) (by simp [covers, mpre]) ?_
        simp [hF, retK, dL, hc]
end Go.Proofs.Ytahgopdamgagkaa

/- A module is put into a list of a thing. -/
namespace Go.Proofs.Ytahgopdamgagkaa
set_option linter.all false
open Go.Vc Go.Proofs
set_option linter.unusedSimpArgs false
set_option linter.unusedVariables false
set_option maxRecDepth 100000
set_option maxHeartbeats 4000000
attribute [local irreducible] CallW EqK

/- (*cabochon/lineage.Lineage).Include$1 -/
theorem I1_ok (L : List Th) (t : Nat) (ht : t < L.length) : Meets Try.prog 38 [dL L] (.cons (.ptr 0 [.d, .f 0, .i t]) .nil)
    fun av X κ => av = .ptr 0 [.d, .f 0, .i t, .f 5] ∧ X = [dL L] ∧ κ = [] := by
  have hn := dThs_nth ht
  refine Meets.of_vs tabOk Try.func38 (body := ?_) ?_ (by kernel_rfl) Try.ntmps38 (rs := [.tmp 2]) (by kernel_rfl) rfl (by simp [AV.len]) (by simp only [envOf]; exact rfl) ?_
  rotate_left
  · rfl
  intro w0 I0 F0 hF
  repeat first
    | refine VS.seq ?_
    | (refine VS.keepAt 0 [0] ?_; generalize hK : VS _ _ _ = KK; (try simp); (try subst hK); refine VS.region tabOk (id := 0) [] (by kernel_rfl) ?_; generalize hK : VS _ _ _ = KK; simp (maxSteps := 1000000) [hF, dL, hn]; (try subst hK); try (refine VS.keep [0] ?_; generalize hK : VS _ _ _ = KK; simp; (try subst hK)))
    | (refine VS.keepAt 1 [0] ?_; generalize hK : VS _ _ _ = KK; (try simp); (try subst hK); refine VS.region tabOk (id := 1) [] (by kernel_rfl) ?_; generalize hK : VS _ _ _ = KK; simp (maxSteps := 1000000) [hF, dL, hn]; (try subst hK); try (refine VS.keep [2] ?_; generalize hK : VS _ _ _ = KK; simp; (try subst hK)))
  try refine VS.ret ?_
  repeat first | refine blockN_ret ?_ | refine loopN_ret ?_
  refine endK.of [2] [0] [] (by simp [hF]) (by simp [covers, mpre]) ?_
  simp [hF, retK, dL]

/-- What a thing is with another list of its own. -/
def withI (L : List Th) (t : Nat) (l : List Int) : List Th := L.set t { L.getD t ⟨0, -1, -1, -1, [], []⟩ with ins := l }
theorem withI_eq {L : List Th} {t : Nat} (ht : t < L.length) (l : List Int) : withI L t l = L.set t { L[t] with ins := l } := by
  unfold withI
  rw [List.getD_eq_getElem?_getD, List.getElem?_eq_getElem ht]; rfl

open Classical in
noncomputable def putI (L : List Th) (t m : Int) : List Th × Int :=
  if (val L t && (val L m && decide ((thAt L m).kind = 1))) = false then (L, 1)
  else if hasN (thAt L t).ins m = true then (L, 7)
  else if m = t ∨ hasN (ordL L m) t = true then (L, 10)
  else if ∀ k : Nat, k < L.length → ∃ o, ordOf (withI L t.toNat (m :: (thAt L t).ins)) k = some o then (withI L t.toNat (m :: (thAt L t).ins), 0) else (L, 10)

/- (*cabochon/lineage.Lineage).put -/
theorem putI_ok {L : List Th} (W : WFL L) (t m : Int) (hB : ∀ t' : Nat, t = t' → t' < L.length → val L m = true → (thAt L m).kind = 1 → hasN (thAt L t).ins m = false → m ≠ t → hasN (ordL L m) t = false → ∃ r, Base (withI L t' (m :: (thAt L t).ins)) r) :
    Meets Try.prog 36 [dL L] (.cons (.ptr 0 [.d]) (.cons (avInt t) (.cons (avInt m) (.cons (.fn 38 .nil) .nil))))
    fun av X κ => av = avInt (putI L t m).2 ∧ X = [dL (putI L t m).1] ∧ κ = [(0, [.d])] := by
  obtain ⟨r, B⟩ := W.base
  have hl := B.len
  refine Meets.of_vs tabOk Try.func36 (body := ?_) ?_ (by kernel_rfl) Try.ntmps36 (rs := [.tmp 8]) (by kernel_rfl) rfl (by simp [AV.len]) (by simp only [envOf]; exact rfl) ?_
  rotate_left
  · rfl
  intro w0 I0 F0 hF
  repeat first
    | refine VS.seq ?_
    | (refine VS.keepAt 0 [0, 1, 2, 3] ?_; generalize hK : VS _ _ _ = KK; (try simp); (try subst hK); refine VS.region tabOk (id := 0) [] (by kernel_rfl) ?_; generalize hK : VS _ _ _ = KK; simp (maxSteps := 1000000) [hF]; (try subst hK); try (refine VS.keep [0, 1, 2, 3] ?_; generalize hK : VS _ _ _ = KK; simp; (try subst hK)))
    | (refine VS.keepAt 1 [0, 1, 2, 3] ?_; generalize hK : VS _ _ _ = KK; (try simp); (try subst hK); refine VS.region tabOk (id := 1) [(4, 21)] (by kernel_rfl) ?_; generalize hK : VS _ _ _ = KK; simp (maxSteps := 1000000) [hF]; (try subst hK); try (refine VS.keep [0, 1, 2, 3, 26] ?_; generalize hK : VS _ _ _ = KK; simp; (try subst hK)))
  cases hv : val L t with
  | false =>
    have hc : putI L t m = (L, 1) := by unfold putI; rw [if_pos (by simp [hv])]
    refine (is_ok L hl t).call [(0, [])] (by simp) (by simp (maxSteps := 1000000) [hF, dL, hv]) (by simp (maxSteps := 1000000) [hF, dL, hv]) (by simp (maxSteps := 1000000) [hF, dL, hv]) (by simp) ?_
    rintro av X κ ⟨rfl, rfl, rfl⟩
    generalize hK : VS _ _ _ = KK; simp (maxSteps := 1000000) [hF, dL, hv]; (try subst hK)
    repeat first
      | refine VS.seq ?_
      | (refine VS.keepAt 2 [] ?_; generalize hK : VS _ _ _ = KK; (try simp); (try subst hK); refine VS.region tabOk (id := 2) [] (by kernel_rfl) ?_; generalize hK : VS _ _ _ = KK; simp (maxSteps := 1000000) [hF]; (try subst hK); try (refine VS.keep [8] ?_; generalize hK : VS _ _ _ = KK; simp; (try subst hK)))
      | (refine VS.cond ?_; generalize hK1 : VS _ _ _ = KK1; generalize hK2 : VS _ _ _ = KK2; simp (maxSteps := 1000000) [hF]; (try subst hK1); (try subst hK2))
    try refine VS.ret ?_
    repeat first | refine blockN_ret ?_ | refine loopN_ret ?_
    refine endK.of [8] [0] [(0, [.d])] (by simp [hF]) (by simp [covers, mpre]) ?_
    simp [hF, retK, dL, hc]
  | true =>
    obtain ⟨t, rfl, ht⟩ := val_nat hv
    have hn := dThs_nth ht
    have hth := thAt_eq ht
    refine (is_ok L hl t).call [(0, [])] (by simp) (by simp (maxSteps := 1000000) [hF, dL, hv]) (by simp (maxSteps := 1000000) [hF, dL, hv]) (by simp (maxSteps := 1000000) [hF, dL, hv]) (by simp) ?_
    rintro av X κ ⟨rfl, rfl, rfl⟩
    generalize hK : VS _ _ _ = KK; simp (maxSteps := 1000000) [hF, dL, hv]; (try subst hK)
    cases hk : (val L m && decide ((thAt L m).kind = 1)) with
    | false =>
      have hc : putI L t m = (L, 1) := by unfold putI; rw [if_pos (by simp [hk])]
      refine (kind_ok L hl m 1).call [(0, [])] (by simp) (by simp (maxSteps := 1000000) [hF, dL, hk]) (by simp (maxSteps := 1000000) [hF, dL, hk]) (by simp (maxSteps := 1000000) [hF, dL, hk]) (by simp) ?_
      rintro av X κ ⟨rfl, rfl, rfl⟩
      generalize hK : VS _ _ _ = KK; simp (maxSteps := 1000000) [hF, dL, hk]; (try subst hK)
      repeat first
        | refine VS.seq ?_
        | (refine VS.keepAt 2 [] ?_; generalize hK : VS _ _ _ = KK; (try simp); (try subst hK); refine VS.region tabOk (id := 2) [] (by kernel_rfl) ?_; generalize hK : VS _ _ _ = KK; simp (maxSteps := 1000000) [hF]; (try subst hK); try (refine VS.keep [8] ?_; generalize hK : VS _ _ _ = KK; simp; (try subst hK)))
        | (refine VS.cond ?_; generalize hK1 : VS _ _ _ = KK1; generalize hK2 : VS _ _ _ = KK2; simp (maxSteps := 1000000) [hF]; (try subst hK1); (try subst hK2))
      try refine VS.ret ?_
      repeat first | refine blockN_ret ?_ | refine loopN_ret ?_
      refine endK.of [8] [0] [(0, [.d])] (by simp [hF]) (by simp [covers, mpre]) ?_
      simp [hF, retK, dL, hc]
    | true =>
      have hkm : val L m = true ∧ (thAt L m).kind = 1 := by simpa using hk
      have h0 : ¬ (val L t && (val L m && decide ((thAt L m).kind = 1))) = false := by rw [hv, hk]; simp
      obtain ⟨m, rfl, hm⟩ := val_nat hkm.1
      have hlen : L[t].ins.length ≤ 1000 := by
        have hx : L[t]? = some L[t] := List.getElem?_eq_getElem ht
        have h1 := nodup_bound L.length (parents L[t]) (B.np _ _ hx) (fun u hu => by have := B.edge _ _ hx u (.inr hu); omega)
        have h2 := nodup_bound L.length L[t].bef (B.nb _ _ hx) (fun u hu => by have := B.edge _ _ hx u (.inl hu); omega)
        have h3 : L[t].ins.length ≤ (parents L[t]).length := by simp [parents]
        omega
      refine (kind_ok L hl m 1).call [(0, [])] (by simp) (by simp (maxSteps := 1000000) [hF, dL, hk]) (by simp (maxSteps := 1000000) [hF, dL, hk]) (by simp (maxSteps := 1000000) [hF, dL, hk]) (by simp) ?_
      rintro av X κ ⟨rfl, rfl, rfl⟩
      generalize hK : VS _ _ _ = KK; simp (maxSteps := 1000000) [hF, dL, hk]; (try subst hK)
      repeat first
        | refine VS.seq ?_
        | refine VS.skip ?_
        | (refine VS.keepAt 3 [0, 1, 2, 3] ?_; generalize hK : VS _ _ _ = KK; (try simp); (try subst hK); refine VS.region tabOk (id := 3) [] (by kernel_rfl) ?_; generalize hK : VS _ _ _ = KK; simp (maxSteps := 1000000) [hF, dL, hn, ht]; (try subst hK); try (refine VS.keep [0, 1, 2, 9] ?_; generalize hK : VS _ _ _ = KK; simp; (try subst hK)))
        | (refine VS.cond ?_; generalize hK1 : VS _ _ _ = KK1; generalize hK2 : VS _ _ _ = KK2; simp (maxSteps := 1000000) [hF, dL, hn, ht]; (try subst hK1); (try subst hK2))
      refine (I1_ok L t ht).call [(0, [])] (by simp) (by simp (maxSteps := 1000000) [hF, dL]) (by simp (maxSteps := 1000000) [hF, dL]) (by simp (maxSteps := 1000000) [hF, dL]) (by simp) ?_
      rintro av X κ ⟨rfl, rfl, rfl⟩
      generalize hK : VS _ _ _ = KK; simp (maxSteps := 1000000) [hF, dL]; (try subst hK)
      repeat first
        | refine VS.seq ?_
        | (refine VS.keepAt 4 [0, 1, 2, 9] ?_; generalize hK : VS _ _ _ = KK; (try simp); (try subst hK); refine VS.region tabOk (id := 4) [] (by kernel_rfl) ?_; generalize hK : VS _ _ _ = KK; simp (maxSteps := 1000000) [hF, dL, hn, ht]; (try subst hK); try (refine VS.keep [0, 1, 2, 9, 39] ?_; generalize hK : VS _ _ _ = KK; simp; (try subst hK)))
      refine (contains_ok false L[t].ins m (by omega)).call [] (by simp) (by simp (maxSteps := 1000000) [hF, dL]) (by simp (maxSteps := 1000000) [hF, dL]) (by simp (maxSteps := 1000000) [hF, dL]) (by simp) ?_
      rintro av X κ ⟨rfl, rfl, rfl⟩
      generalize hK : VS _ _ _ = KK; simp (maxSteps := 1000000) [hF, dL]; (try subst hK)
      cases hd : hasN L[t].ins m with
      | true =>
        have hc : putI L t m = (L, 7) := by unfold putI; rw [if_neg h0, hth, if_pos hd]
        repeat first
          | refine VS.seq ?_
          | (refine VS.keepAt 5 [] ?_; generalize hK : VS _ _ _ = KK; (try simp); (try subst hK); refine VS.region tabOk (id := 5) [] (by kernel_rfl) ?_; generalize hK : VS _ _ _ = KK; simp (maxSteps := 1000000) [hF, hd]; (try subst hK); try (refine VS.keep [8] ?_; generalize hK : VS _ _ _ = KK; simp; (try subst hK)))
          | (refine VS.cond ?_; generalize hK1 : VS _ _ _ = KK1; generalize hK2 : VS _ _ _ = KK2; simp (maxSteps := 1000000) [hF, hd]; (try subst hK1); (try subst hK2))
        try refine VS.ret ?_
        repeat first | refine blockN_ret ?_ | refine loopN_ret ?_
        refine endK.of [8] [0] [(0, [.d])] (by simp [hF]) (by simp [covers, mpre]) ?_
        simp [hF, retK, dL, hc]
      | false =>
        have hd' : ¬ hasN (thAt L t).ins m = true := by rw [hth, hd]; simp
        have hol : (ordL L m).length ≤ 1000 := ord_len B hm (W.ord hm)
        repeat first
          | refine VS.seq ?_
          | refine VS.skip ?_
          | (refine VS.keepAt 6 [0, 1, 2, 9] ?_; generalize hK : VS _ _ _ = KK; (try simp); (try subst hK); refine VS.region tabOk (id := 6) [] (by kernel_rfl) ?_; generalize hK : VS _ _ _ = KK; simp (maxSteps := 1000000) [hF, hd]; (try subst hK); try (refine VS.keep [0, 1, 2, 9, 10] ?_; generalize hK : VS _ _ _ = KK; simp; (try subst hK)))
          | (refine VS.cond ?_; generalize hK1 : VS _ _ _ = KK1; generalize hK2 : VS _ _ _ = KK2; simp (maxSteps := 1000000) [hF, hd]; (try subst hK1); (try subst hK2))
        by_cases hmt : (m : Int) = (t : Int)
        · have hc : putI L t m = (L, 10) := by unfold putI; rw [if_neg h0, if_neg hd', if_pos (.inl hmt)]
          refine (order_ok W m hm).call [(0, [])] (by simp) (by simp (maxSteps := 1000000) [hF, dL, hmt]) (by simp (maxSteps := 1000000) [hF, dL, hmt]) (by simp (maxSteps := 1000000) [hF, dL, hmt]) (by simp) ?_
          rintro av X κ ⟨rfl, rfl, rfl⟩
          generalize hK : VS _ _ _ = KK; simp (maxSteps := 1000000) [hF, dL, hmt]; (try subst hK)
          repeat first
            | refine VS.seq ?_
            | (refine VS.keepAt 7 [0, 1, 2, 9, 10] ?_; generalize hK : VS _ _ _ = KK; (try simp); (try subst hK); refine VS.region tabOk (id := 7) [(3, 49)] (by kernel_rfl) ?_; generalize hK : VS _ _ _ = KK; simp (maxSteps := 1000000) [hF, hmt]; (try subst hK); try (refine VS.keep [0, 2, 9, 53] ?_; generalize hK : VS _ _ _ = KK; simp; (try subst hK)))
            | (refine VS.keepAt 8 [] ?_; generalize hK : VS _ _ _ = KK; (try simp); (try subst hK); refine VS.region tabOk (id := 8) [] (by kernel_rfl) ?_; generalize hK : VS _ _ _ = KK; simp (maxSteps := 1000000) [hF, hmt]; (try subst hK); try (refine VS.keep [8] ?_; generalize hK : VS _ _ _ = KK; simp; (try subst hK)))
            | (refine VS.cond ?_; generalize hK1 : VS _ _ _ = KK1; generalize hK2 : VS _ _ _ = KK2; simp (maxSteps := 1000000) [hF, hmt]; (try subst hK1); (try subst hK2))
          try refine VS.ret ?_
          repeat first | refine blockN_ret ?_ | refine loopN_ret ?_
          refine endK.of [8] [0] [(0, [.d])] (by simp [hF]) (by simp [covers, mpre]) ?_
          simp [hF, retK, dL, hc]
        · refine (order_ok W m hm).call [(0, [])] (by simp) (by simp (maxSteps := 1000000) [hF, dL, hmt]) (by simp (maxSteps := 1000000) [hF, dL, hmt]) (by simp (maxSteps := 1000000) [hF, dL, hmt]) (by simp) ?_
          rintro av X κ ⟨rfl, rfl, rfl⟩
          generalize hK : VS _ _ _ = KK; simp (maxSteps := 1000000) [hF, dL, hmt]; (try subst hK)
          repeat first
            | refine VS.seq ?_
            | (refine VS.keepAt 7 [0, 1, 2, 9, 10] ?_; generalize hK : VS _ _ _ = KK; (try simp); (try subst hK); refine VS.region tabOk (id := 7) [(3, 49)] (by kernel_rfl) ?_; generalize hK : VS _ _ _ = KK; simp (maxSteps := 1000000) [hF, hmt]; (try subst hK); try (refine VS.keep [0, 2, 9, 53] ?_; generalize hK : VS _ _ _ = KK; simp; (try subst hK)))
          refine (contains_ok false (ordL L m) t (by omega)).call [] (by simp) (by simp (maxSteps := 1000000) [hF, dL]) (by simp (maxSteps := 1000000) [hF, dL]) (by simp (maxSteps := 1000000) [hF, dL]) (by simp) ?_
          rintro av X κ ⟨rfl, rfl, rfl⟩
          generalize hK : VS _ _ _ = KK; simp (maxSteps := 1000000) [hF, dL]; (try subst hK)
          cases hh : hasN (ordL L m) t with
          | true =>
            have hc : putI L t m = (L, 10) := by unfold putI; rw [if_neg h0, if_neg hd', if_pos (.inr hh)]
            repeat first
              | refine VS.seq ?_
              | (refine VS.keepAt 8 [] ?_; generalize hK : VS _ _ _ = KK; (try simp); (try subst hK); refine VS.region tabOk (id := 8) [] (by kernel_rfl) ?_; generalize hK : VS _ _ _ = KK; simp (maxSteps := 1000000) [hF, hh]; (try subst hK); try (refine VS.keep [8] ?_; generalize hK : VS _ _ _ = KK; simp; (try subst hK)))
              | (refine VS.cond ?_; generalize hK1 : VS _ _ _ = KK1; generalize hK2 : VS _ _ _ = KK2; simp (maxSteps := 1000000) [hF, hh]; (try subst hK1); (try subst hK2))
            try refine VS.ret ?_
            repeat first | refine blockN_ret ?_ | refine loopN_ret ?_
            refine endK.of [8] [0] [(0, [.d])] (by simp [hF]) (by simp [covers, mpre]) ?_
            simp [hF, retK, dL, hc]
          | false =>
            have h3 : ¬ ((m : Int) = t ∨ hasN (ordL L m) t = true) := by rw [hh]; simp [hmt]
            obtain ⟨r2, B2⟩ := hB t rfl ht hkm.1 hkm.2 (by rw [hth]; exact hd) hmt hh
            have hwe := withI_eq ht ((m : Int) :: L[t].ins)
            have hset := dThs_set L t { L[t] with ins := (m : Int) :: L[t].ins }
            have hfl : flatOs [(true, [(m : Int)]), (false, L[t].ins)] = (m : Int) :: L[t].ins := by simp [flatOs]
            repeat first
              | refine VS.seq ?_
              | refine VS.skip ?_
              | (refine VS.keepAt 9 [0, 2, 9] ?_; generalize hK : VS _ _ _ = KK; (try simp); (try subst hK); refine VS.region tabOk (id := 9) [] (by kernel_rfl) ?_; generalize hK : VS _ _ _ = KK; simp (maxSteps := 1000000) [hF, hh, hn, ht]; (try subst hK); try (refine VS.keep [0, 2, 9, 12] ?_; generalize hK : VS _ _ _ = KK; simp; (try subst hK)))
              | (refine VS.keepAt 10 [0, 2, 9, 12] ?_; generalize hK : VS _ _ _ = KK; (try simp); (try subst hK); refine VS.region tabOk (id := 10) [] (by kernel_rfl) ?_; generalize hK : VS _ _ _ = KK; simp (maxSteps := 1000000) [hF, hh, hn, ht]; (try subst hK); try (refine VS.keep [0, 9, 12] ?_; generalize hK : VS _ _ _ = KK; simp; (try subst hK)))
              | (refine VS.cond ?_; generalize hK1 : VS _ _ _ = KK1; generalize hK2 : VS _ _ _ = KK2; simp (maxSteps := 1000000) [hF, hh, hn, ht]; (try subst hK1); (try subst hK2))
            refine (concat_ok true [(true, [(m : Int)]), (false, L[t].ins)] (by simp) (by simp [sizeOs]) (by simp [sizeOs]; omega)).call [(2, [])] (by simp) (by simp (maxSteps := 1000000) [hF, dOs, sq, dInts_one, hfl, hn, ht, hset]) (by simp (maxSteps := 1000000) [hF, dOs, sq, dInts_one, hfl, hn, ht, hset]) (by simp (maxSteps := 1000000) [hF, dOs, sq, dInts_one, hfl, hn, ht, hset]) (by simp) ?_
            rintro av X κ ⟨rfl, rfl, rfl⟩
            generalize hK : VS _ _ _ = KK; simp (maxSteps := 1000000) [hF, dOs, sq, dInts_one, hfl, hn, ht, hset]; (try subst hK)
            repeat first
              | refine VS.seq ?_
              | refine VS.block ?_
              | (refine VS.keepAt 11 [0, 9, 12] ?_; generalize hK : VS _ _ _ = KK; (try simp); (try subst hK); refine VS.region tabOk (id := 11) [] (by kernel_rfl) ?_; generalize hK : VS _ _ _ = KK; simp (maxSteps := 1000000) [hF]; (try subst hK); try (refine VS.keep [0, 9, 12, 13] ?_; generalize hK : VS _ _ _ = KK; simp; (try subst hK)))
              | (refine VS.keepAt 12 [0, 9, 12, 13] ?_; generalize hK : VS _ _ _ = KK; (try simp); (try subst hK); refine VS.region tabOk (id := 12) [] (by kernel_rfl) ?_; generalize hK : VS _ _ _ = KK; simp (maxSteps := 1000000) [hF]; (try subst hK); try (refine VS.keep [0, 9, 12, 13, 69, 70] ?_; generalize hK : VS _ _ _ = KK; simp; (try subst hK)))
            refine VS.widen [(0, [.d])] (by simp [covers, mpre]) ?_
            refine VS.pick [0, 9, 12, 13, 69, 70] [0, 3] (by simp [hF]) ?_
            generalize hK : VS _ _ _ = KK; simp [hF]; (try subst hK)
            have hw0 : withI L t ((m : Int) :: L[t].ins) = withI L (t : Int).toNat ((m : Int) :: (thAt L t).ins) := by rw [hth]; rfl
            rw [hth] at B2
            generalize hL2 : withI L t ((m : Int) :: L[t].ins) = L2 at *
            have hl2 : L2.length = L.length := by rw [hwe]; simp
            have ht2 : t < L2.length := by omega
            have hget2 : L2[t] = { L[t] with ins := (m : Int) :: L[t].ins } := by simp [hwe]
            have hback : L2.set t L[t] = L := by rw [hwe, List.set_set, List.set_getElem_self]
            have hn2 := dThs_nth ht2
            rw [hget2] at hn2
            have hset2 := dThs_set L2 t L[t]
            rw [hback] at hset2
            refine VS.rounds (fun n st => ∃ (i : Nat) (M : List (Int × List Int)), i + n = L.length ∧ MemoOk L2 M ∧ (∀ k : Nat, k < i → ∃ o, ordOf L2 k = some o) ∧
              st = ⟨[(0, .ptr 0 [.d]), (9, .ptr 0 [.d, .f 0, .i t, .f 5]), (12, .imm 1 (dInts L[t].ins) false), (13, .mp 1 []), (69, avInt L.length), (70, avInt i)], [dL L2, dM M], [(0, [.d])], []⟩)
              ⟨L.length, 0, [], by omega, (fun k o h => by cases h), (fun k h => by omega), by simp [dL, dM, hwe]⟩ ?_
            rintro n st ⟨i, M, hin, hM, hall, rfl⟩
            repeat first
              | refine VS.seq ?_
              | (refine VS.keepAt 13 [0, 9, 12, 13, 69, 70] ?_; generalize hK : VS _ _ _ = KK; (try simp); (try subst hK); refine VS.region tabOk (id := 13) [] (by kernel_rfl) ?_; generalize hK : VS _ _ _ = KK; simp (maxSteps := 1000000) [hF]; (try subst hK); try (refine VS.keep [0, 9, 12, 13, 69, 70, 71] ?_; generalize hK : VS _ _ _ = KK; simp; (try subst hK)))
              | (refine VS.cond ?_; generalize hK1 : VS _ _ _ = KK1; generalize hK2 : VS _ _ _ = KK2; simp (maxSteps := 1000000) [hF]; (try subst hK1); (try subst hK2))
            refine ⟨fun hlt => ?_, fun hge => ?_⟩
            · have hi2 : i < L2.length := by omega
              cases ho : ordOf L2 i with
              | some o =>
                have hf := Meets.mono (find_ok B2 i hi2 M hM) (R' := fun av X κ => ∃ M, MemoOk L2 M ∧ av = .tup (.cons (.imm 1 (dInts o) false) (.cons (avBool true) .nil)) ∧ X = [dL L2, dM M] ∧ κ = [(1, [.i 0])])
                  fun av X κ ⟨M, h1, h2, h3, h4⟩ => ⟨M, h1, by rw [ho] at h4; exact h4, h2, h3⟩
                repeat first
                  | refine VS.seq ?_
                  | refine VS.skip ?_
                  | refine VS.block ?_
                  | (refine VS.keepAt 14 [0, 9, 12, 13, 69, 70] ?_; generalize hK : VS _ _ _ = KK; (try simp); (try subst hK); refine VS.region tabOk (id := 14) [] (by kernel_rfl) ?_; generalize hK : VS _ _ _ = KK; simp (maxSteps := 1000000) [hF]; (try subst hK); try (refine VS.keep [0, 9, 12, 13, 14, 69, 70] ?_; generalize hK : VS _ _ _ = KK; simp; (try subst hK)))
                  | (refine VS.keepAt 15 [0, 9, 12, 13, 14, 69, 70] ?_; generalize hK : VS _ _ _ = KK; (try simp); (try subst hK); refine VS.region tabOk (id := 15) [] (by kernel_rfl) ?_; generalize hK : VS _ _ _ = KK; simp (maxSteps := 1000000) [hF]; (try subst hK); try (refine VS.keep [0, 9, 12, 13, 16, 69, 70] ?_; generalize hK : VS _ _ _ = KK; simp; (try subst hK)))
                refine (hf).call [(0, []), (1, [])] (by simp) (by simp (maxSteps := 1000000) [hF, dL, dM]) (by simp (maxSteps := 1000000) [hF, dL, dM]) (by simp (maxSteps := 1000000) [hF, dL, dM]) (by simp) ?_
                rintro av X κ ⟨M, hM, rfl, rfl, rfl⟩
                generalize hK : VS _ _ _ = KK; simp (maxSteps := 1000000) [hF, dL, dM]; (try subst hK)
                repeat first
                  | refine VS.seq ?_
                  | refine VS.skip ?_
                  | refine VS.nil ?_
                  | refine blockN_normal ?_
                  | refine loopN_normal ?_
                  | (refine VS.keepAt 16 [0, 9, 12, 13, 16, 69, 70] ?_; generalize hK : VS _ _ _ = KK; (try simp); (try subst hK); refine VS.region tabOk (id := 16) [] (by kernel_rfl) ?_; generalize hK : VS _ _ _ = KK; simp (maxSteps := 1000000) [hF]; (try subst hK); try (refine VS.keep [0, 9, 12, 13, 69, 70, 81] ?_; generalize hK : VS _ _ _ = KK; simp; (try subst hK)))
                  | (refine VS.keepAt 19 [0, 9, 12, 13, 69, 70] ?_; generalize hK : VS _ _ _ = KK; (try simp); (try subst hK); refine VS.region tabOk (id := 19) [] (by kernel_rfl) ?_; generalize hK : VS _ _ _ = KK; simp (maxSteps := 1000000) [hF]; (try subst hK); try (refine VS.keep [0, 9, 12, 13, 69, 70] ?_; generalize hK : VS _ _ _ = KK; simp; (try subst hK)))
                  | (refine VS.cond ?_; generalize hK1 : VS _ _ _ = KK1; generalize hK2 : VS _ _ _ = KK2; simp (maxSteps := 1000000) [hF]; (try subst hK1); (try subst hK2))
                refine nextK.of [0, 9, 12, 13, 69, 70] [0, 1] (n - 1) (by omega) (by simp [hF]) ?_
                refine ⟨i + 1, M, by omega, hM, fun k hk => ?_, ?_⟩
                · rcases Nat.lt_or_ge k i with h | h
                  · exact hall k h
                  · obtain rfl : k = i := by omega
                    exact ⟨o, ho⟩
                · simp [dL, dM]
                  exact IntWalk.i64_in _ (by omega)
              | none =>
                have hc : putI L t m = (L, 10) := by
                  unfold putI
                  rw [if_neg h0, if_neg hd', if_neg h3, ← hw0, if_neg]
                  intro h
                  obtain ⟨o, h⟩ := h i (by omega)
                  rw [ho] at h; cases h
                have hf := Meets.mono (find_ok B2 i hi2 M hM) (R' := fun av X κ => ∃ M, MemoOk L2 M ∧ av = .tup (.cons (.nils 1) (.cons (avBool false) .nil)) ∧ X = [dL L2, dM M] ∧ κ = [(1, [.i 0])])
                  fun av X κ ⟨M, h1, h2, h3, h4⟩ => ⟨M, h1, by rw [ho] at h4; exact h4, h2, h3⟩
                repeat first
                  | refine VS.seq ?_
                  | refine VS.skip ?_
                  | refine VS.block ?_
                  | (refine VS.keepAt 14 [0, 9, 12, 13, 69, 70] ?_; generalize hK : VS _ _ _ = KK; (try simp); (try subst hK); refine VS.region tabOk (id := 14) [] (by kernel_rfl) ?_; generalize hK : VS _ _ _ = KK; simp (maxSteps := 1000000) [hF]; (try subst hK); try (refine VS.keep [0, 9, 12, 13, 14, 69, 70] ?_; generalize hK : VS _ _ _ = KK; simp; (try subst hK)))
                  | (refine VS.keepAt 15 [0, 9, 12, 13, 14, 69, 70] ?_; generalize hK : VS _ _ _ = KK; (try simp); (try subst hK); refine VS.region tabOk (id := 15) [] (by kernel_rfl) ?_; generalize hK : VS _ _ _ = KK; simp (maxSteps := 1000000) [hF]; (try subst hK); try (refine VS.keep [0, 9, 12, 13, 16, 69, 70] ?_; generalize hK : VS _ _ _ = KK; simp; (try subst hK)))
                refine (hf).call [(0, []), (1, [])] (by simp) (by simp (maxSteps := 1000000) [hF, dL, dM]) (by simp (maxSteps := 1000000) [hF, dL, dM]) (by simp (maxSteps := 1000000) [hF, dL, dM]) (by simp) ?_
                rintro av X κ ⟨M, hM, rfl, rfl, rfl⟩
                generalize hK : VS _ _ _ = KK; simp (maxSteps := 1000000) [hF, dL, dM]; (try subst hK)
                repeat first
                  | refine VS.seq ?_
                  | (refine VS.keepAt 16 [0, 9, 12, 13, 16, 69, 70] ?_; generalize hK : VS _ _ _ = KK; (try simp); (try subst hK); refine VS.region tabOk (id := 16) [] (by kernel_rfl) ?_; generalize hK : VS _ _ _ = KK; simp (maxSteps := 1000000) [hF, dL, hn2, ht2, hset2]; (try subst hK); try (refine VS.keep [0, 9, 12, 13, 69, 70, 81] ?_; generalize hK : VS _ _ _ = KK; simp; (try subst hK)))
                  | (refine VS.keepAt 17 [9, 12] ?_; generalize hK : VS _ _ _ = KK; (try simp); (try subst hK); refine VS.region tabOk (id := 17) [] (by kernel_rfl) ?_; generalize hK : VS _ _ _ = KK; simp (maxSteps := 1000000) [hF, dL, hn2, ht2, hset2]; (try subst hK); try (refine VS.keep [] ?_; generalize hK : VS _ _ _ = KK; simp; (try subst hK)))
                  | (refine VS.keepAt 18 [] ?_; generalize hK : VS _ _ _ = KK; (try simp); (try subst hK); refine VS.region tabOk (id := 18) [] (by kernel_rfl) ?_; generalize hK : VS _ _ _ = KK; simp (maxSteps := 1000000) [hF, dL, hn2, ht2, hset2]; (try subst hK); try (refine VS.keep [8] ?_; generalize hK : VS _ _ _ = KK; simp; (try subst hK)))
                  | (refine VS.cond ?_; generalize hK1 : VS _ _ _ = KK1; generalize hK2 : VS _ _ _ = KK2; simp (maxSteps := 1000000) [hF, dL, hn2, ht2, hset2]; (try subst hK1); (try subst hK2))
                try refine VS.ret ?_
                repeat first | refine blockN_ret ?_ | refine loopN_ret ?_
                refine endK.of [8] [0] [(0, [.d])] (by simp [hF]) (by simp [covers, mpre]) ?_
                simp [hF, retK, dL, hc]
            · obtain rfl : i = L.length := by omega
              have hc : putI L t m = (L2, 0) := by
                unfold putI
                rw [if_neg h0, if_neg hd', if_neg h3, ← hw0, if_pos hall]
              repeat first
                | refine VS.seq ?_
                | refine VS.exit ?_
                | (refine VS.keepAt 20 [] ?_; generalize hK : VS _ _ _ = KK; (try simp); (try subst hK); refine VS.region tabOk (id := 20) [] (by kernel_rfl) ?_; generalize hK : VS _ _ _ = KK; simp (maxSteps := 1000000) [hF]; (try subst hK); try (refine VS.keep [8] ?_; generalize hK : VS _ _ _ = KK; simp; (try subst hK)))
              try refine VS.ret ?_
              repeat first | refine blockN_ret ?_ | refine loopN_ret ?_
              refine endK.of [8] [0] [(0, [.d])] (by simp [hF]) (by simp [covers, mpre]) ?_
              simp [hF, retK, dL, hc]

/- (*cabochon/lineage.Lineage).Include -/
theorem include_ok {L : List Th} (W : WFL L) (t m : Int) (hB : ∀ t' : Nat, t = t' → t' < L.length → val L m = true → (thAt L m).kind = 1 → hasN (thAt L t).ins m = false → m ≠ t → hasN (ordL L m) t = false → ∃ r, Base (withI L t' (m :: (thAt L t).ins)) r) :
    Meets Try.prog 19 [dL L] (.cons (.ptr 0 [.d]) (.cons (avInt t) (.cons (avInt m) .nil)))
    fun av X κ => av = avInt (putI L t m).2 ∧ X = [dL (putI L t m).1] ∧ κ = [(0, [.d])] := by
  refine Meets.of_vs tabOk Try.func19 (body := ?_) ?_ (by kernel_rfl) Try.ntmps19 (rs := [.tmp 6]) (by kernel_rfl) rfl (by simp [AV.len]) (by simp only [envOf]; exact rfl) ?_
  rotate_left
  · rfl
  intro w0 I0 F0 hF
  repeat first
    | refine VS.seq ?_
    | (refine VS.keepAt 0 [0, 1, 2] ?_; generalize hK : VS _ _ _ = KK; (try simp); (try subst hK); refine VS.region tabOk (id := 0) [] (by kernel_rfl) ?_; generalize hK : VS _ _ _ = KK; simp (maxSteps := 1000000) [hF]; (try subst hK); try (refine VS.keep [0, 1, 2] ?_; generalize hK : VS _ _ _ = KK; simp; (try subst hK)))
    | (refine VS.keepAt 1 [0, 1, 2] ?_; generalize hK : VS _ _ _ = KK; (try simp); (try subst hK); refine VS.region tabOk (id := 1) [] (by kernel_rfl) ?_; generalize hK : VS _ _ _ = KK; simp (maxSteps := 1000000) [hF]; (try subst hK); try (refine VS.keep [6] ?_; generalize hK : VS _ _ _ = KK; simp; (try subst hK)))
  refine (putI_ok W t m hB).call [(0, [])] (by simp) (by simp (maxSteps := 1000000) [hF, dL]) (by simp (maxSteps := 1000000) [hF, dL]) (by simp (maxSteps := 1000000) [hF, dL]) (by simp) ?_
  rintro av X κ ⟨rfl, rfl, rfl⟩
  generalize hK : VS _ _ _ = KK; simp (maxSteps := 1000000) [hF, dL]; (try subst hK)
  try refine VS.ret ?_
  repeat first | refine blockN_ret ?_ | refine loopN_ret ?_
  refine endK.of [6] [0] [(0, [.d])] (by simp [hF]) (by simp [covers, mpre]) ?_
  simp [hF, retK, dL]

/- (*cabochon/lineage.Lineage).Prepend$1 -/
theorem P1_ok (L : List Th) (t : Nat) (ht : t < L.length) : Meets Try.prog 37 [dL L] (.cons (.ptr 0 [.d, .f 0, .i t]) .nil)
    fun av X κ => av = .ptr 0 [.d, .f 0, .i t, .f 4] ∧ X = [dL L] ∧ κ = [] := by
  have hn := dThs_nth ht
  refine Meets.of_vs tabOk Try.func37 (body := ?_) ?_ (by kernel_rfl) Try.ntmps37 (rs := [.tmp 2]) (by kernel_rfl) rfl (by simp [AV.len]) (by simp only [envOf]; exact rfl) ?_
  rotate_left
  · rfl
  intro w0 I0 F0 hF
  repeat first
    | refine VS.seq ?_
    | (refine VS.keepAt 0 [0] ?_; generalize hK : VS _ _ _ = KK; (try simp); (try subst hK); refine VS.region tabOk (id := 0) [] (by kernel_rfl) ?_; generalize hK : VS _ _ _ = KK; simp (maxSteps := 1000000) [hF, dL, hn]; (try subst hK); try (refine VS.keep [0] ?_; generalize hK : VS _ _ _ = KK; simp; (try subst hK)))
    | (refine VS.keepAt 1 [0] ?_; generalize hK : VS _ _ _ = KK; (try simp); (try subst hK); refine VS.region tabOk (id := 1) [] (by kernel_rfl) ?_; generalize hK : VS _ _ _ = KK; simp (maxSteps := 1000000) [hF, dL, hn]; (try subst hK); try (refine VS.keep [2] ?_; generalize hK : VS _ _ _ = KK; simp; (try subst hK)))
  try refine VS.ret ?_
  repeat first | refine blockN_ret ?_ | refine loopN_ret ?_
  refine endK.of [2] [0] [] (by simp [hF]) (by simp [covers, mpre]) ?_
  simp [hF, retK, dL]

/-- What a thing is with another list of its own. -/
def withP (L : List Th) (t : Nat) (l : List Int) : List Th := L.set t { L.getD t ⟨0, -1, -1, -1, [], []⟩ with bef := l }
theorem withP_eq {L : List Th} {t : Nat} (ht : t < L.length) (l : List Int) : withP L t l = L.set t { L[t] with bef := l } := by
  unfold withP
  rw [List.getD_eq_getElem?_getD, List.getElem?_eq_getElem ht]; rfl

open Classical in
noncomputable def putP (L : List Th) (t m : Int) : List Th × Int :=
  if (val L t && (val L m && decide ((thAt L m).kind = 1))) = false then (L, 1)
  else if hasN (thAt L t).bef m = true then (L, 7)
  else if m = t ∨ hasN (ordL L m) t = true then (L, 10)
  else if ∀ k : Nat, k < L.length → ∃ o, ordOf (withP L t.toNat (m :: (thAt L t).bef)) k = some o then (withP L t.toNat (m :: (thAt L t).bef), 0) else (L, 10)

/- (*cabochon/lineage.Lineage).put -/
theorem putP_ok {L : List Th} (W : WFL L) (t m : Int) (hB : ∀ t' : Nat, t = t' → t' < L.length → val L m = true → (thAt L m).kind = 1 → hasN (thAt L t).bef m = false → m ≠ t → hasN (ordL L m) t = false → ∃ r, Base (withP L t' (m :: (thAt L t).bef)) r) :
    Meets Try.prog 36 [dL L] (.cons (.ptr 0 [.d]) (.cons (avInt t) (.cons (avInt m) (.cons (.fn 37 .nil) .nil))))
    fun av X κ => av = avInt (putP L t m).2 ∧ X = [dL (putP L t m).1] ∧ κ = [(0, [.d])] := by
  obtain ⟨r, B⟩ := W.base
  have hl := B.len
  refine Meets.of_vs tabOk Try.func36 (body := ?_) ?_ (by kernel_rfl) Try.ntmps36 (rs := [.tmp 8]) (by kernel_rfl) rfl (by simp [AV.len]) (by simp only [envOf]; exact rfl) ?_
  rotate_left
  · rfl
  intro w0 I0 F0 hF
  repeat first
    | refine VS.seq ?_
    | (refine VS.keepAt 0 [0, 1, 2, 3] ?_; generalize hK : VS _ _ _ = KK; (try simp); (try subst hK); refine VS.region tabOk (id := 0) [] (by kernel_rfl) ?_; generalize hK : VS _ _ _ = KK; simp (maxSteps := 1000000) [hF]; (try subst hK); try (refine VS.keep [0, 1, 2, 3] ?_; generalize hK : VS _ _ _ = KK; simp; (try subst hK)))
    | (refine VS.keepAt 1 [0, 1, 2, 3] ?_; generalize hK : VS _ _ _ = KK; (try simp); (try subst hK); refine VS.region tabOk (id := 1) [(4, 21)] (by kernel_rfl) ?_; generalize hK : VS _ _ _ = KK; simp (maxSteps := 1000000) [hF]; (try subst hK); try (refine VS.keep [0, 1, 2, 3, 26] ?_; generalize hK : VS _ _ _ = KK; simp; (try subst hK)))
  cases hv : val L t with
  | false =>
    have hc : putP L t m = (L, 1) := by unfold putP; rw [if_pos (by simp [hv])]
    refine (is_ok L hl t).call [(0, [])] (by simp) (by simp (maxSteps := 1000000) [hF, dL, hv]) (by simp (maxSteps := 1000000) [hF, dL, hv]) (by simp (maxSteps := 1000000) [hF, dL, hv]) (by simp) ?_
    rintro av X κ ⟨rfl, rfl, rfl⟩
    generalize hK : VS _ _ _ = KK; simp (maxSteps := 1000000) [hF, dL, hv]; (try subst hK)
    repeat first
      | refine VS.seq ?_
      | (refine VS.keepAt 2 [] ?_; generalize hK : VS _ _ _ = KK; (try simp); (try subst hK); refine VS.region tabOk (id := 2) [] (by kernel_rfl) ?_; generalize hK : VS _ _ _ = KK; simp (maxSteps := 1000000) [hF]; (try subst hK); try (refine VS.keep [8] ?_; generalize hK : VS _ _ _ = KK; simp; (try subst hK)))
      | (refine VS.cond ?_; generalize hK1 : VS _ _ _ = KK1; generalize hK2 : VS _ _ _ = KK2; simp (maxSteps := 1000000) [hF]; (try subst hK1); (try subst hK2))
    try refine VS.ret ?_
    repeat first | refine blockN_ret ?_ | refine loopN_ret ?_
    refine endK.of [8] [0] [(0, [.d])] (by simp [hF]) (by simp [covers, mpre]) ?_
    simp [hF, retK, dL, hc]
  | true =>
    obtain ⟨t, rfl, ht⟩ := val_nat hv
    have hn := dThs_nth ht
    have hth := thAt_eq ht
    refine (is_ok L hl t).call [(0, [])] (by simp) (by simp (maxSteps := 1000000) [hF, dL, hv]) (by simp (maxSteps := 1000000) [hF, dL, hv]) (by simp (maxSteps := 1000000) [hF, dL, hv]) (by simp) ?_
    rintro av X κ ⟨rfl, rfl, rfl⟩
    generalize hK : VS _ _ _ = KK; simp (maxSteps := 1000000) [hF, dL, hv]; (try subst hK)
    cases hk : (val L m && decide ((thAt L m).kind = 1)) with
    | false =>
      have hc : putP L t m = (L, 1) := by unfold putP; rw [if_pos (by simp [hk])]
      refine (kind_ok L hl m 1).call [(0, [])] (by simp) (by simp (maxSteps := 1000000) [hF, dL, hk]) (by simp (maxSteps := 1000000) [hF, dL, hk]) (by simp (maxSteps := 1000000) [hF, dL, hk]) (by simp) ?_
      rintro av X κ ⟨rfl, rfl, rfl⟩
      generalize hK : VS _ _ _ = KK; simp (maxSteps := 1000000) [hF, dL, hk]; (try subst hK)
      repeat first
        | refine VS.seq ?_
        | (refine VS.keepAt 2 [] ?_; generalize hK : VS _ _ _ = KK; (try simp); (try subst hK); refine VS.region tabOk (id := 2) [] (by kernel_rfl) ?_; generalize hK : VS _ _ _ = KK; simp (maxSteps := 1000000) [hF]; (try subst hK); try (refine VS.keep [8] ?_; generalize hK : VS _ _ _ = KK; simp; (try subst hK)))
        | (refine VS.cond ?_; generalize hK1 : VS _ _ _ = KK1; generalize hK2 : VS _ _ _ = KK2; simp (maxSteps := 1000000) [hF]; (try subst hK1); (try subst hK2))
      try refine VS.ret ?_
      repeat first | refine blockN_ret ?_ | refine loopN_ret ?_
      refine endK.of [8] [0] [(0, [.d])] (by simp [hF]) (by simp [covers, mpre]) ?_
      simp [hF, retK, dL, hc]
    | true =>
      have hkm : val L m = true ∧ (thAt L m).kind = 1 := by simpa using hk
      have h0 : ¬ (val L t && (val L m && decide ((thAt L m).kind = 1))) = false := by rw [hv, hk]; simp
      obtain ⟨m, rfl, hm⟩ := val_nat hkm.1
      have hlen : L[t].bef.length ≤ 1000 := by
        have hx : L[t]? = some L[t] := List.getElem?_eq_getElem ht
        have h1 := nodup_bound L.length (parents L[t]) (B.np _ _ hx) (fun u hu => by have := B.edge _ _ hx u (.inr hu); omega)
        have h2 := nodup_bound L.length L[t].bef (B.nb _ _ hx) (fun u hu => by have := B.edge _ _ hx u (.inl hu); omega)
        have h3 : L[t].ins.length ≤ (parents L[t]).length := by simp [parents]
        omega
      refine (kind_ok L hl m 1).call [(0, [])] (by simp) (by simp (maxSteps := 1000000) [hF, dL, hk]) (by simp (maxSteps := 1000000) [hF, dL, hk]) (by simp (maxSteps := 1000000) [hF, dL, hk]) (by simp) ?_
      rintro av X κ ⟨rfl, rfl, rfl⟩
      generalize hK : VS _ _ _ = KK; simp (maxSteps := 1000000) [hF, dL, hk]; (try subst hK)
      repeat first
        | refine VS.seq ?_
        | refine VS.skip ?_
        | (refine VS.keepAt 3 [0, 1, 2, 3] ?_; generalize hK : VS _ _ _ = KK; (try simp); (try subst hK); refine VS.region tabOk (id := 3) [] (by kernel_rfl) ?_; generalize hK : VS _ _ _ = KK; simp (maxSteps := 1000000) [hF, dL, hn, ht]; (try subst hK); try (refine VS.keep [0, 1, 2, 9] ?_; generalize hK : VS _ _ _ = KK; simp; (try subst hK)))
        | (refine VS.cond ?_; generalize hK1 : VS _ _ _ = KK1; generalize hK2 : VS _ _ _ = KK2; simp (maxSteps := 1000000) [hF, dL, hn, ht]; (try subst hK1); (try subst hK2))
      refine (P1_ok L t ht).call [(0, [])] (by simp) (by simp (maxSteps := 1000000) [hF, dL]) (by simp (maxSteps := 1000000) [hF, dL]) (by simp (maxSteps := 1000000) [hF, dL]) (by simp) ?_
      rintro av X κ ⟨rfl, rfl, rfl⟩
      generalize hK : VS _ _ _ = KK; simp (maxSteps := 1000000) [hF, dL]; (try subst hK)
      repeat first
        | refine VS.seq ?_
        | (refine VS.keepAt 4 [0, 1, 2, 9] ?_; generalize hK : VS _ _ _ = KK; (try simp); (try subst hK); refine VS.region tabOk (id := 4) [] (by kernel_rfl) ?_; generalize hK : VS _ _ _ = KK; simp (maxSteps := 1000000) [hF, dL, hn, ht]; (try subst hK); try (refine VS.keep [0, 1, 2, 9, 39] ?_; generalize hK : VS _ _ _ = KK; simp; (try subst hK)))
      refine (contains_ok false L[t].bef m (by omega)).call [] (by simp) (by simp (maxSteps := 1000000) [hF, dL]) (by simp (maxSteps := 1000000) [hF, dL]) (by simp (maxSteps := 1000000) [hF, dL]) (by simp) ?_
      rintro av X κ ⟨rfl, rfl, rfl⟩
      generalize hK : VS _ _ _ = KK; simp (maxSteps := 1000000) [hF, dL]; (try subst hK)
      cases hd : hasN L[t].bef m with
      | true =>
        have hc : putP L t m = (L, 7) := by unfold putP; rw [if_neg h0, hth, if_pos hd]
        repeat first
          | refine VS.seq ?_
          | (refine VS.keepAt 5 [] ?_; generalize hK : VS _ _ _ = KK; (try simp); (try subst hK); refine VS.region tabOk (id := 5) [] (by kernel_rfl) ?_; generalize hK : VS _ _ _ = KK; simp (maxSteps := 1000000) [hF, hd]; (try subst hK); try (refine VS.keep [8] ?_; generalize hK : VS _ _ _ = KK; simp; (try subst hK)))
          | (refine VS.cond ?_; generalize hK1 : VS _ _ _ = KK1; generalize hK2 : VS _ _ _ = KK2; simp (maxSteps := 1000000) [hF, hd]; (try subst hK1); (try subst hK2))
        try refine VS.ret ?_
        repeat first | refine blockN_ret ?_ | refine loopN_ret ?_
        refine endK.of [8] [0] [(0, [.d])] (by simp [hF]) (by simp [covers, mpre]) ?_
        simp [hF, retK, dL, hc]
      | false =>
        have hd' : ¬ hasN (thAt L t).bef m = true := by rw [hth, hd]; simp
        have hol : (ordL L m).length ≤ 1000 := ord_len B hm (W.ord hm)
        repeat first
          | refine VS.seq ?_
          | refine VS.skip ?_
          | (refine VS.keepAt 6 [0, 1, 2, 9] ?_; generalize hK : VS _ _ _ = KK; (try simp); (try subst hK); refine VS.region tabOk (id := 6) [] (by kernel_rfl) ?_; generalize hK : VS _ _ _ = KK; simp (maxSteps := 1000000) [hF, hd]; (try subst hK); try (refine VS.keep [0, 1, 2, 9, 10] ?_; generalize hK : VS _ _ _ = KK; simp; (try subst hK)))
          | (refine VS.cond ?_; generalize hK1 : VS _ _ _ = KK1; generalize hK2 : VS _ _ _ = KK2; simp (maxSteps := 1000000) [hF, hd]; (try subst hK1); (try subst hK2))
        by_cases hmt : (m : Int) = (t : Int)
        · have hc : putP L t m = (L, 10) := by unfold putP; rw [if_neg h0, if_neg hd', if_pos (.inl hmt)]
          refine (order_ok W m hm).call [(0, [])] (by simp) (by simp (maxSteps := 1000000) [hF, dL, hmt]) (by simp (maxSteps := 1000000) [hF, dL, hmt]) (by simp (maxSteps := 1000000) [hF, dL, hmt]) (by simp) ?_
          rintro av X κ ⟨rfl, rfl, rfl⟩
          generalize hK : VS _ _ _ = KK; simp (maxSteps := 1000000) [hF, dL, hmt]; (try subst hK)
          repeat first
            | refine VS.seq ?_
            | (refine VS.keepAt 7 [0, 1, 2, 9, 10] ?_; generalize hK : VS _ _ _ = KK; (try simp); (try subst hK); refine VS.region tabOk (id := 7) [(3, 49)] (by kernel_rfl) ?_; generalize hK : VS _ _ _ = KK; simp (maxSteps := 1000000) [hF, hmt]; (try subst hK); try (refine VS.keep [0, 2, 9, 53] ?_; generalize hK : VS _ _ _ = KK; simp; (try subst hK)))
            | (refine VS.keepAt 8 [] ?_; generalize hK : VS _ _ _ = KK; (try simp); (try subst hK); refine VS.region tabOk (id := 8) [] (by kernel_rfl) ?_; generalize hK : VS _ _ _ = KK; simp (maxSteps := 1000000) [hF, hmt]; (try subst hK); try (refine VS.keep [8] ?_; generalize hK : VS _ _ _ = KK; simp; (try subst hK)))
            | (refine VS.cond ?_; generalize hK1 : VS _ _ _ = KK1; generalize hK2 : VS _ _ _ = KK2; simp (maxSteps := 1000000) [hF, hmt]; (try subst hK1); (try subst hK2))
          try refine VS.ret ?_
          repeat first | refine blockN_ret ?_ | refine loopN_ret ?_
          refine endK.of [8] [0] [(0, [.d])] (by simp [hF]) (by simp [covers, mpre]) ?_
          simp [hF, retK, dL, hc]
        · refine (order_ok W m hm).call [(0, [])] (by simp) (by simp (maxSteps := 1000000) [hF, dL, hmt]) (by simp (maxSteps := 1000000) [hF, dL, hmt]) (by simp (maxSteps := 1000000) [hF, dL, hmt]) (by simp) ?_
          rintro av X κ ⟨rfl, rfl, rfl⟩
          generalize hK : VS _ _ _ = KK; simp (maxSteps := 1000000) [hF, dL, hmt]; (try subst hK)
          repeat first
            | refine VS.seq ?_
            | (refine VS.keepAt 7 [0, 1, 2, 9, 10] ?_; generalize hK : VS _ _ _ = KK; (try simp); (try subst hK); refine VS.region tabOk (id := 7) [(3, 49)] (by kernel_rfl) ?_; generalize hK : VS _ _ _ = KK; simp (maxSteps := 1000000) [hF, hmt]; (try subst hK); try (refine VS.keep [0, 2, 9, 53] ?_; generalize hK : VS _ _ _ = KK; simp; (try subst hK)))
          refine (contains_ok false (ordL L m) t (by omega)).call [] (by simp) (by simp (maxSteps := 1000000) [hF, dL]) (by simp (maxSteps := 1000000) [hF, dL]) (by simp (maxSteps := 1000000) [hF, dL]) (by simp) ?_
          rintro av X κ ⟨rfl, rfl, rfl⟩
          generalize hK : VS _ _ _ = KK; simp (maxSteps := 1000000) [hF, dL]; (try subst hK)
          cases hh : hasN (ordL L m) t with
          | true =>
            have hc : putP L t m = (L, 10) := by unfold putP; rw [if_neg h0, if_neg hd', if_pos (.inr hh)]
            repeat first
              | refine VS.seq ?_
              | (refine VS.keepAt 8 [] ?_; generalize hK : VS _ _ _ = KK; (try simp); (try subst hK); refine VS.region tabOk (id := 8) [] (by kernel_rfl) ?_; generalize hK : VS _ _ _ = KK; simp (maxSteps := 1000000) [hF, hh]; (try subst hK); try (refine VS.keep [8] ?_; generalize hK : VS _ _ _ = KK; simp; (try subst hK)))
              | (refine VS.cond ?_; generalize hK1 : VS _ _ _ = KK1; generalize hK2 : VS _ _ _ = KK2; simp (maxSteps := 1000000) [hF, hh]; (try subst hK1); (try subst hK2))
            try refine VS.ret ?_
            repeat first | refine blockN_ret ?_ | refine loopN_ret ?_
            refine endK.of [8] [0] [(0, [.d])] (by simp [hF]) (by simp [covers, mpre]) ?_
            simp [hF, retK, dL, hc]
          | false =>
            have h3 : ¬ ((m : Int) = t ∨ hasN (ordL L m) t = true) := by rw [hh]; simp [hmt]
            obtain ⟨r2, B2⟩ := hB t rfl ht hkm.1 hkm.2 (by rw [hth]; exact hd) hmt hh
            have hwe := withP_eq ht ((m : Int) :: L[t].bef)
            have hset := dThs_set L t { L[t] with bef := (m : Int) :: L[t].bef }
            have hfl : flatOs [(true, [(m : Int)]), (false, L[t].bef)] = (m : Int) :: L[t].bef := by simp [flatOs]
            repeat first
              | refine VS.seq ?_
              | refine VS.skip ?_
              | (refine VS.keepAt 9 [0, 2, 9] ?_; generalize hK : VS _ _ _ = KK; (try simp); (try subst hK); refine VS.region tabOk (id := 9) [] (by kernel_rfl) ?_; generalize hK : VS _ _ _ = KK; simp (maxSteps := 1000000) [hF, hh, hn, ht]; (try subst hK); try (refine VS.keep [0, 2, 9, 12] ?_; generalize hK : VS _ _ _ = KK; simp; (try subst hK)))
              | (refine VS.keepAt 10 [0, 2, 9, 12] ?_; generalize hK : VS _ _ _ = KK; (try simp); (try subst hK); refine VS.region tabOk (id := 10) [] (by kernel_rfl) ?_; generalize hK : VS _ _ _ = KK; simp (maxSteps := 1000000) [hF, hh, hn, ht]; (try subst hK); try (refine VS.keep [0, 9, 12] ?_; generalize hK : VS _ _ _ = KK; simp; (try subst hK)))
              | (refine VS.cond ?_; generalize hK1 : VS _ _ _ = KK1; generalize hK2 : VS _ _ _ = KK2; simp (maxSteps := 1000000) [hF, hh, hn, ht]; (try subst hK1); (try subst hK2))
            refine (concat_ok true [(true, [(m : Int)]), (false, L[t].bef)] (by simp) (by simp [sizeOs]) (by simp [sizeOs]; omega)).call [(2, [])] (by simp) (by simp (maxSteps := 1000000) [hF, dOs, sq, dInts_one, hfl, hn, ht, hset]) (by simp (maxSteps := 1000000) [hF, dOs, sq, dInts_one, hfl, hn, ht, hset]) (by simp (maxSteps := 1000000) [hF, dOs, sq, dInts_one, hfl, hn, ht, hset]) (by simp) ?_
            rintro av X κ ⟨rfl, rfl, rfl⟩
            generalize hK : VS _ _ _ = KK; simp (maxSteps := 1000000) [hF, dOs, sq, dInts_one, hfl, hn, ht, hset]; (try subst hK)
            repeat first
              | refine VS.seq ?_
              | refine VS.block ?_
              | (refine VS.keepAt 11 [0, 9, 12] ?_; generalize hK : VS _ _ _ = KK; (try simp); (try subst hK); refine VS.region tabOk (id := 11) [] (by kernel_rfl) ?_; generalize hK : VS _ _ _ = KK; simp (maxSteps := 1000000) [hF]; (try subst hK); try (refine VS.keep [0, 9, 12, 13] ?_; generalize hK : VS _ _ _ = KK; simp; (try subst hK)))
              | (refine VS.keepAt 12 [0, 9, 12, 13] ?_; generalize hK : VS _ _ _ = KK; (try simp); (try subst hK); refine VS.region tabOk (id := 12) [] (by kernel_rfl) ?_; generalize hK : VS _ _ _ = KK; simp (maxSteps := 1000000) [hF]; (try subst hK); try (refine VS.keep [0, 9, 12, 13, 69, 70] ?_; generalize hK : VS _ _ _ = KK; simp; (try subst hK)))
            refine VS.widen [(0, [.d])] (by simp [covers, mpre]) ?_
            refine VS.pick [0, 9, 12, 13, 69, 70] [0, 3] (by simp [hF]) ?_
            generalize hK : VS _ _ _ = KK; simp [hF]; (try subst hK)
            have hw0 : withP L t ((m : Int) :: L[t].bef) = withP L (t : Int).toNat ((m : Int) :: (thAt L t).bef) := by rw [hth]; rfl
            rw [hth] at B2
            generalize hL2 : withP L t ((m : Int) :: L[t].bef) = L2 at *
            have hl2 : L2.length = L.length := by rw [hwe]; simp
            have ht2 : t < L2.length := by omega
            have hget2 : L2[t] = { L[t] with bef := (m : Int) :: L[t].bef } := by simp [hwe]
            have hback : L2.set t L[t] = L := by rw [hwe, List.set_set, List.set_getElem_self]
            have hn2 := dThs_nth ht2
            rw [hget2] at hn2
            have hset2 := dThs_set L2 t L[t]
            rw [hback] at hset2
            refine VS.rounds (fun n st => ∃ (i : Nat) (M : List (Int × List Int)), i + n = L.length ∧ MemoOk L2 M ∧ (∀ k : Nat, k < i → ∃ o, ordOf L2 k = some o) ∧
              st = ⟨[(0, .ptr 0 [.d]), (9, .ptr 0 [.d, .f 0, .i t, .f 4]), (12, .imm 1 (dInts L[t].bef) false), (13, .mp 1 []), (69, avInt L.length), (70, avInt i)], [dL L2, dM M], [(0, [.d])], []⟩)
              ⟨L.length, 0, [], by omega, (fun k o h => by cases h), (fun k h => by omega), by simp [dL, dM, hwe]⟩ ?_
            rintro n st ⟨i, M, hin, hM, hall, rfl⟩
            repeat first
              | refine VS.seq ?_
              | (refine VS.keepAt 13 [0, 9, 12, 13, 69, 70] ?_; generalize hK : VS _ _ _ = KK; (try simp); (try subst hK); refine VS.region tabOk (id := 13) [] (by kernel_rfl) ?_; generalize hK : VS _ _ _ = KK; simp (maxSteps := 1000000) [hF]; (try subst hK); try (refine VS.keep [0, 9, 12, 13, 69, 70, 71] ?_; generalize hK : VS _ _ _ = KK; simp; (try subst hK)))
              | (refine VS.cond ?_; generalize hK1 : VS _ _ _ = KK1; generalize hK2 : VS _ _ _ = KK2; simp (maxSteps := 1000000) [hF]; (try subst hK1); (try subst hK2))
            refine ⟨fun hlt => ?_, fun hge => ?_⟩
            · have hi2 : i < L2.length := by omega
              cases ho : ordOf L2 i with
              | some o =>
                have hf := Meets.mono (find_ok B2 i hi2 M hM) (R' := fun av X κ => ∃ M, MemoOk L2 M ∧ av = .tup (.cons (.imm 1 (dInts o) false) (.cons (avBool true) .nil)) ∧ X = [dL L2, dM M] ∧ κ = [(1, [.i 0])])
                  fun av X κ ⟨M, h1, h2, h3, h4⟩ => ⟨M, h1, by rw [ho] at h4; exact h4, h2, h3⟩
                repeat first
                  | refine VS.seq ?_
                  | refine VS.skip ?_
                  | refine VS.block ?_
                  | (refine VS.keepAt 14 [0, 9, 12, 13, 69, 70] ?_; generalize hK : VS _ _ _ = KK; (try simp); (try subst hK); refine VS.region tabOk (id := 14) [] (by kernel_rfl) ?_; generalize hK : VS _ _ _ = KK; simp (maxSteps := 1000000) [hF]; (try subst hK); try (refine VS.keep [0, 9, 12, 13, 14, 69, 70] ?_; generalize hK : VS _ _ _ = KK; simp; (try subst hK)))
                  | (refine VS.keepAt 15 [0, 9, 12, 13, 14, 69, 70] ?_; generalize hK : VS _ _ _ = KK; (try simp); (try subst hK); refine VS.region tabOk (id := 15) [] (by kernel_rfl) ?_; generalize hK : VS _ _ _ = KK; simp (maxSteps := 1000000) [hF]; (try subst hK); try (refine VS.keep [0, 9, 12, 13, 16, 69, 70] ?_; generalize hK : VS _ _ _ = KK; simp; (try subst hK)))
                refine (hf).call [(0, []), (1, [])] (by simp) (by simp (maxSteps := 1000000) [hF, dL, dM]) (by simp (maxSteps := 1000000) [hF, dL, dM]) (by simp (maxSteps := 1000000) [hF, dL, dM]) (by simp) ?_
                rintro av X κ ⟨M, hM, rfl, rfl, rfl⟩
                generalize hK : VS _ _ _ = KK; simp (maxSteps := 1000000) [hF, dL, dM]; (try subst hK)
                repeat first
                  | refine VS.seq ?_
                  | refine VS.skip ?_
                  | refine VS.nil ?_
                  | refine blockN_normal ?_
                  | refine loopN_normal ?_
                  | (refine VS.keepAt 16 [0, 9, 12, 13, 16, 69, 70] ?_; generalize hK : VS _ _ _ = KK; (try simp); (try subst hK); refine VS.region tabOk (id := 16) [] (by kernel_rfl) ?_; generalize hK : VS _ _ _ = KK; simp (maxSteps := 1000000) [hF]; (try subst hK); try (refine VS.keep [0, 9, 12, 13, 69, 70, 81] ?_; generalize hK : VS _ _ _ = KK; simp; (try subst hK)))
                  | (refine VS.keepAt 19 [0, 9, 12, 13, 69, 70] ?_; generalize hK : VS _ _ _ = KK; (try simp); (try subst hK); refine VS.region tabOk (id := 19) [] (by kernel_rfl) ?_; generalize hK : VS _ _ _ = KK; simp (maxSteps := 1000000) [hF]; (try subst hK); try (refine VS.keep [0, 9, 12, 13, 69, 70] ?_; generalize hK : VS _ _ _ = KK; simp; (try subst hK)))
                  | (refine VS.cond ?_; generalize hK1 : VS _ _ _ = KK1; generalize hK2 : VS _ _ _ = KK2; simp (maxSteps := 1000000) [hF]; (try subst hK1); (try subst hK2))
                refine nextK.of [0, 9, 12, 13, 69, 70] [0, 1] (n - 1) (by omega) (by simp [hF]) ?_
                refine ⟨i + 1, M, by omega, hM, fun k hk => ?_, ?_⟩
                · rcases Nat.lt_or_ge k i with h | h
                  · exact hall k h
                  · obtain rfl : k = i := by omega
                    exact ⟨o, ho⟩
                · simp [dL, dM]
                  exact IntWalk.i64_in _ (by omega)
              | none =>
                have hc : putP L t m = (L, 10) := by
                  unfold putP
                  rw [if_neg h0, if_neg hd', if_neg h3, ← hw0, if_neg]
                  intro h
                  obtain ⟨o, h⟩ := h i (by omega)
                  rw [ho] at h; cases h
                have hf := Meets.mono (find_ok B2 i hi2 M hM) (R' := fun av X κ => ∃ M, MemoOk L2 M ∧ av = .tup (.cons (.nils 1) (.cons (avBool false) .nil)) ∧ X = [dL L2, dM M] ∧ κ = [(1, [.i 0])])
                  fun av X κ ⟨M, h1, h2, h3, h4⟩ => ⟨M, h1, by rw [ho] at h4; exact h4, h2, h3⟩
                repeat first
                  | refine VS.seq ?_
                  | refine VS.skip ?_
                  | refine VS.block ?_
                  | (refine VS.keepAt 14 [0, 9, 12, 13, 69, 70] ?_; generalize hK : VS _ _ _ = KK; (try simp); (try subst hK); refine VS.region tabOk (id := 14) [] (by kernel_rfl) ?_; generalize hK : VS _ _ _ = KK; simp (maxSteps := 1000000) [hF]; (try subst hK); try (refine VS.keep [0, 9, 12, 13, 14, 69, 70] ?_; generalize hK : VS _ _ _ = KK; simp; (try subst hK)))
                  | (refine VS.keepAt 15 [0, 9, 12, 13, 14, 69, 70] ?_; generalize hK : VS _ _ _ = KK; (try simp); (try subst hK); refine VS.region tabOk (id := 15) [] (by kernel_rfl) ?_; generalize hK : VS _ _ _ = KK; simp (maxSteps := 1000000) [hF]; (try subst hK); try (refine VS.keep [0, 9, 12, 13, 16, 69, 70] ?_; generalize hK : VS _ _ _ = KK; simp; (try subst hK)))
                refine (hf).call [(0, []), (1, [])] (by simp) (by simp (maxSteps := 1000000) [hF, dL, dM]) (by simp (maxSteps := 1000000) [hF, dL, dM]) (by simp (maxSteps := 1000000) [hF, dL, dM]) (by simp) ?_
                rintro av X κ ⟨M, hM, rfl, rfl, rfl⟩
                generalize hK : VS _ _ _ = KK; simp (maxSteps := 1000000) [hF, dL, dM]; (try subst hK)
                repeat first
                  | refine VS.seq ?_
                  | (refine VS.keepAt 16 [0, 9, 12, 13, 16, 69, 70] ?_; generalize hK : VS _ _ _ = KK; (try simp); (try subst hK); refine VS.region tabOk (id := 16) [] (by kernel_rfl) ?_; generalize hK : VS _ _ _ = KK; simp (maxSteps := 1000000) [hF, dL, hn2, ht2, hset2]; (try subst hK); try (refine VS.keep [0, 9, 12, 13, 69, 70, 81] ?_; generalize hK : VS _ _ _ = KK; simp; (try subst hK)))
                  | (refine VS.keepAt 17 [9, 12] ?_; generalize hK : VS _ _ _ = KK; (try simp); (try subst hK); refine VS.region tabOk (id := 17) [] (by kernel_rfl) ?_; generalize hK : VS _ _ _ = KK; simp (maxSteps := 1000000) [hF, dL, hn2, ht2, hset2]; (try subst hK); try (refine VS.keep [] ?_; generalize hK : VS _ _ _ = KK; simp; (try subst hK)))
                  | (refine VS.keepAt 18 [] ?_; generalize hK : VS _ _ _ = KK; (try simp); (try subst hK); refine VS.region tabOk (id := 18) [] (by kernel_rfl) ?_; generalize hK : VS _ _ _ = KK; simp (maxSteps := 1000000) [hF, dL, hn2, ht2, hset2]; (try subst hK); try (refine VS.keep [8] ?_; generalize hK : VS _ _ _ = KK; simp; (try subst hK)))
                  | (refine VS.cond ?_; generalize hK1 : VS _ _ _ = KK1; generalize hK2 : VS _ _ _ = KK2; simp (maxSteps := 1000000) [hF, dL, hn2, ht2, hset2]; (try subst hK1); (try subst hK2))
                try refine VS.ret ?_
                repeat first | refine blockN_ret ?_ | refine loopN_ret ?_
                refine endK.of [8] [0] [(0, [.d])] (by simp [hF]) (by simp [covers, mpre]) ?_
                simp [hF, retK, dL, hc]
            · obtain rfl : i = L.length := by omega
              have hc : putP L t m = (L2, 0) := by
                unfold putP
                rw [if_neg h0, if_neg hd', if_neg h3, ← hw0, if_pos hall]
              repeat first
                | refine VS.seq ?_
                | refine VS.exit ?_
                | (refine VS.keepAt 20 [] ?_; generalize hK : VS _ _ _ = KK; (try simp); (try subst hK); refine VS.region tabOk (id := 20) [] (by kernel_rfl) ?_; generalize hK : VS _ _ _ = KK; simp (maxSteps := 1000000) [hF]; (try subst hK); try (refine VS.keep [8] ?_; generalize hK : VS _ _ _ = KK; simp; (try subst hK)))
              try refine VS.ret ?_
              repeat first | refine blockN_ret ?_ | refine loopN_ret ?_
              refine endK.of [8] [0] [(0, [.d])] (by simp [hF]) (by simp [covers, mpre]) ?_
              simp [hF, retK, dL, hc]

/- (*cabochon/lineage.Lineage).Prepend -/
theorem prepend_ok {L : List Th} (W : WFL L) (t m : Int) (hB : ∀ t' : Nat, t = t' → t' < L.length → val L m = true → (thAt L m).kind = 1 → hasN (thAt L t).bef m = false → m ≠ t → hasN (ordL L m) t = false → ∃ r, Base (withP L t' (m :: (thAt L t).bef)) r) :
    Meets Try.prog 18 [dL L] (.cons (.ptr 0 [.d]) (.cons (avInt t) (.cons (avInt m) .nil)))
    fun av X κ => av = avInt (putP L t m).2 ∧ X = [dL (putP L t m).1] ∧ κ = [(0, [.d])] := by
  refine Meets.of_vs tabOk Try.func18 (body := ?_) ?_ (by kernel_rfl) Try.ntmps18 (rs := [.tmp 6]) (by kernel_rfl) rfl (by simp [AV.len]) (by simp only [envOf]; exact rfl) ?_
  rotate_left
  · rfl
  intro w0 I0 F0 hF
  repeat first
    | refine VS.seq ?_
    | (refine VS.keepAt 0 [0, 1, 2] ?_; generalize hK : VS _ _ _ = KK; (try simp); (try subst hK); refine VS.region tabOk (id := 0) [] (by kernel_rfl) ?_; generalize hK : VS _ _ _ = KK; simp (maxSteps := 1000000) [hF]; (try subst hK); try (refine VS.keep [0, 1, 2] ?_; generalize hK : VS _ _ _ = KK; simp; (try subst hK)))
    | (refine VS.keepAt 1 [0, 1, 2] ?_; generalize hK : VS _ _ _ = KK; (try simp); (try subst hK); refine VS.region tabOk (id := 1) [] (by kernel_rfl) ?_; generalize hK : VS _ _ _ = KK; simp (maxSteps := 1000000) [hF]; (try subst hK); try (refine VS.keep [6] ?_; generalize hK : VS _ _ _ = KK; simp; (try subst hK)))
  refine (putP_ok W t m hB).call [(0, [])] (by simp) (by simp (maxSteps := 1000000) [hF, dL]) (by simp (maxSteps := 1000000) [hF, dL]) (by simp (maxSteps := 1000000) [hF, dL]) (by simp) ?_
  rintro av X κ ⟨rfl, rfl, rfl⟩
  generalize hK : VS _ _ _ = KK; simp (maxSteps := 1000000) [hF, dL]; (try subst hK)
  try refine VS.ret ?_
  repeat first | refine blockN_ret ?_ | refine loopN_ret ?_
  refine endK.of [6] [0] [(0, [.d])] (by simp [hF]) (by simp [covers, mpre]) ?_
  simp [hF, retK, dL]

end Go.Proofs.Ytahgopdamgagkaa

/- A lineage's laws, plainly. -/
namespace Go.Proofs.Ytahgopdamgagkaa
set_option linter.all false
open Go.Vc Go.Proofs

def edge (x : Th) (u : Int) : Prop := u ∈ x.bef ∨ u ∈ parents x
/-- What can be come to from a thing. -/
inductive Reach (L : List Th) : Int → Int → Prop
  | refl (t : Int) : Reach L t t
  | step {t : Nat} {x : Th} {u v : Int} : L[t]? = some x → edge x u → Reach L u v → Reach L t v

theorem ord_parts {L : List Th} {r : Int → Nat} (B : Base L r) {t : Nat} {x : Th} (hx : L[t]? = some x) {o : List Int} (h : ordOf L t = some o) :
    ∃ front behind, mergedF (ordOf L) x.bef = some front ∧ mergedF (ordOf L) (parents x) = some behind ∧ o = front ++ [(t : Int)] ++ behind.filter fun v => !hasN front v := by
  rw [ordOf_step B hx] at h
  split at h
  · cases h
  · rename_i front hf
    split at h
    · cases h
    · rename_i behind hb
      cases h
      exact ⟨front, behind, hf, hb, rfl⟩

section
variable {L : List Th} (W : WFL L)
include W
theorem ordL_spec {t : Nat} (ht : t < L.length) : (ordL L t).Nodup ∧ (t : Int) ∈ ordL L t ∧ ∀ v ∈ ordL L t, 0 ≤ v ∧ v < L.length := by
  obtain ⟨r, B⟩ := W.base
  obtain ⟨h1, h2, h3⟩ := ordOf_spec B ht (W.ord ht)
  exact ⟨h1, h2, fun v hv => ⟨(h3 v hv).1, (h3 v hv).2.1⟩⟩
theorem parts {t : Nat} {x : Th} (hx : L[t]? = some x) : ∃ front behind, mergedF (ordOf L) x.bef = some front ∧ mergedF (ordOf L) (parents x) = some behind ∧ ordL L t = front ++ [(t : Int)] ++ behind.filter fun v => !hasN front v := by
  obtain ⟨r, B⟩ := W.base
  exact ord_parts B hx (W.ord (List.getElem?_eq_some_iff.1 hx).1)
/-- What a merge of orders holds. -/
theorem merged_of {l o : List Int} (h : mergedF (ordOf L) l = some o) (hl : l.Nodup) (hv : ∀ u ∈ l, 0 ≤ u ∧ u < L.length) :
    o.Nodup ∧ l.Sublist o ∧ (∀ t ∈ l, (ordL L t).Sublist o) ∧ ∀ v ∈ o, v ∈ l ∨ ∃ t ∈ l, v ∈ ordL L t := by
  have ho : ∀ u ∈ l, ordOf L u = some (ordL L u) := fun u hu => by
    have := hv u hu
    obtain ⟨k, rfl⟩ : ∃ k : Nat, u = k := ⟨u.toNat, by omega⟩
    exact W.ord (by omega)
  obtain ⟨h1, h2, h3, h4⟩ := merged_spec h hl fun u hu ou hou => by
    rw [ho u hu] at hou; cases hou
    have := hv u hu
    obtain ⟨k, rfl⟩ : ∃ k : Nat, u = k := ⟨u.toNat, by omega⟩
    exact (ordL_spec W (by omega)).1
  refine ⟨h1, h2, fun t ht => ?_, fun v hvo => ?_⟩
  · obtain ⟨ot, q1, q2⟩ := h3 t ht
    rw [ho t ht] at q1; cases q1; exact q2
  · rcases h4 v hvo with h | ⟨t, ht, ot, q1, q2⟩
    · exact .inl h
    · rw [ho t ht] at q1; cases q1; exact .inr ⟨t, ht, q2⟩
theorem edge_val {t : Nat} {x : Th} (hx : L[t]? = some x) {u : Int} (hu : edge x u) : 0 ≤ u ∧ u < L.length := by
  obtain ⟨r, B⟩ := W.base
  have := B.edge _ _ hx u hu
  exact ⟨this.1, this.2.1⟩
theorem mem_ordL {t : Nat} {x : Th} (hx : L[t]? = some x) (v : Int) : v ∈ ordL L t ↔ v = t ∨ ∃ u, edge x u ∧ v ∈ ordL L u := by
  obtain ⟨r, B⟩ := W.base
  obtain ⟨front, behind, hf, hb, ho⟩ := parts W hx
  obtain ⟨f1, f2, f3, f4⟩ := merged_of W hf (B.nb _ _ hx) (fun u hu => edge_val W hx (.inl hu))
  obtain ⟨b1, b2, b3, b4⟩ := merged_of W hb (B.np _ _ hx) (fun u hu => edge_val W hx (.inr hu))
  have self : ∀ u, edge x u → u ∈ ordL L u := fun u hu => by
    have := edge_val W hx hu
    obtain ⟨k, rfl⟩ : ∃ k : Nat, u = k := ⟨u.toNat, by omega⟩
    exact (ordL_spec W (by omega)).2.1
  have inF : ∀ w, w ∈ front ∨ w ∈ behind → w ∈ ordL L t := fun w hw => by
    rw [ho]
    by_cases hwf : w ∈ front
    · simp [hwf]
    · have hwb : w ∈ behind := hw.resolve_left hwf
      have : hasN front w = false := by
        cases h : hasN front w with
        | false => rfl
        | true => exact absurd (hasN_iff.1 h) hwf
      simp [hwb, this]
  constructor
  · intro hv
    rw [ho] at hv
    simp only [List.mem_append, List.mem_singleton, List.mem_filter] at hv
    rcases hv with (hv | hv) | ⟨hv, _⟩
    · rcases f4 v hv with h | ⟨u, hu, h⟩
      · exact .inr ⟨v, .inl h, self v (.inl h)⟩
      · exact .inr ⟨u, .inl hu, h⟩
    · exact .inl hv
    · rcases b4 v hv with h | ⟨u, hu, h⟩
      · exact .inr ⟨v, .inr h, self v (.inr h)⟩
      · exact .inr ⟨u, .inr hu, h⟩
  · rintro (rfl | ⟨u, hu, hv⟩)
    · rw [ho]; simp
    · rcases hu with hu | hu
      · exact inF v (.inl ((f3 u hu).subset hv))
      · exact inF v (.inr ((b3 u hu).subset hv))
theorem reach_ord {t v : Int} (h : Reach L t v) : 0 ≤ t → t < L.length → v ∈ ordL L t := by
  induction h with
  | refl t =>
    intro h0 h1
    obtain ⟨k, rfl⟩ : ∃ k : Nat, t = k := ⟨t.toNat, by omega⟩
    exact (ordL_spec W (by omega)).2.1
  | step hx he _ ih =>
    intro h0 h1
    have := edge_val W hx he
    exact (mem_ordL W hx _).2 (.inr ⟨_, he, ih this.1 this.2⟩)
theorem ord_reach : ∀ (n : Nat) {t : Nat} {r : Int → Nat}, Base L r → r t < n → t < L.length → ∀ v ∈ ordL L t, Reach L t v
  | 0, _, _, _, h, _, _, _ => by omega
  | n + 1, t, r, B, hn, ht, v, hv => by
    have hx : L[t]? = some L[t] := List.getElem?_eq_getElem ht
    rcases (mem_ordL W hx v).1 hv with rfl | ⟨u, hu, hvu⟩
    · exact .refl _
    · have hb := B.edge _ _ hx u hu
      obtain ⟨k, rfl⟩ : ∃ k : Nat, u = k := ⟨u.toNat, by omega⟩
      exact .step hx hu (ord_reach n B (by omega) (by omega) v hvu)
theorem mem_reach {t : Nat} (ht : t < L.length) (v : Int) : v ∈ ordL L t ↔ Reach L t v := by
  obtain ⟨r, B⟩ := W.base
  exact ⟨fun h => ord_reach W (r t + 1) B (by omega) ht v h, fun h => reach_ord W h (by omega) (by omega)⟩
end

theorem ordOf_iff {L : List Th} {t : Int} {o : List Int} : ordOf L t = some o ↔ ∃ n, ordF n L t = some o := ⟨ordOf_some, fun ⟨_, h⟩ => ordOf_of h⟩

/-- Orders go by the lists and superclasses alone. -/
theorem ordF_same {L L' : List Th} {r : Int → Nat} (B : Base L r) (hs : ∀ (t : Nat) (x : Th), L[t]? = some x → ∃ x', L'[t]? = some x' ∧ x'.bef = x.bef ∧ parents x' = parents x) :
    ∀ (n : Nat) (t : Nat), t < L.length → ordF n L' t = ordF n L t
  | 0, _, _ => rfl
  | n + 1, t, ht => by
    have hx : L[t]? = some L[t] := List.getElem?_eq_getElem ht
    obtain ⟨x', hx', e1, e2⟩ := hs t _ hx
    have hg : ∀ u, edge L[t] u → ordF n L' u = ordF n L u := fun u hu => by
      have := B.edge _ _ hx u hu
      obtain ⟨k, rfl⟩ : ∃ k : Nat, u = k := ⟨u.toNat, by omega⟩
      exact ordF_same B hs n k (by omega)
    unfold ordF
    simp only [Int.toNat_natCast, hx, hx', e1, e2]
    rw [mergedF_congr fun u hu => hg u (.inl hu), mergedF_congr fun u hu => hg u (.inr hu)]
theorem ordOf_same {L L' : List Th} {r : Int → Nat} (B : Base L r) (hs : ∀ (t : Nat) (x : Th), L[t]? = some x → ∃ x', L'[t]? = some x' ∧ x'.bef = x.bef ∧ parents x' = parents x) {t : Nat} (ht : t < L.length) : ordOf L' t = ordOf L t := by
  have h := fun n => ordF_same B hs n t ht
  apply Option.ext
  intro o
  rw [ordOf_iff, ordOf_iff]
  exact ⟨fun ⟨n, hn⟩ => ⟨n, by rw [← h n]; exact hn⟩, fun ⟨n, hn⟩ => ⟨n, by rw [h n]; exact hn⟩⟩

/-- A list and one of its own: they are in order. -/
theorem merge_one {s : Int} : ∀ (o : List Int) (f : Nat) (out : List Int) (l2 : List Int), o.Nodup → s ∈ o → l2 = [s] → o.length + 1 < f → mergeF f [o, l2] out = some (out ++ o)
  | [], _, _, _, _, h, _, _ => by cases h
  | a :: o, 0, _, _, _, _, _, hf => by omega
  | a :: o, f + 1, out, l2, hn, hs, h2, hf => by
    subst h2
    have hna := (List.nodup_cons.1 hn).1
    have hf1 : ([a :: o, [s]] : List (List Int)).filter (fun x => !nul x) = [a :: o, [s]] := by simp [nul]
    unfold mergeF
    rw [hf1, if_neg (by simp)]
    have hit : inTails [a :: o, [s]] a = false := by
      simp only [inTails, List.any_cons, List.tail_cons, List.any_nil, Bool.or_false]
      have : hasN o a = false := by
        cases h : hasN o a with
        | false => rfl
        | true => exact absurd (hasN_iff.1 h) hna
      rw [this]; rfl
    have hfind : ([a :: o, [s]] : List (List Int)).find? (fun x => !inTails [a :: o, [s]] (hd x)) = some (a :: o) := by
      rw [List.find?_cons_of_pos]; simp [hd, hit]
    rw [hfind]
    have hha : hd (a :: o) = a := rfl
    have hd1 : dropHd a (a :: o) = o := if_pos hha
    simp only [hha, List.map_cons, List.map_nil, hd1]
    by_cases h : s = a
    · subst h
      have hd2 : dropHd s [s] = [] := if_pos (show hd [s] = s from rfl)
      rw [hd2]
      have hrest : ∀ (p : List Int) (g : Nat) (w : List Int), p.Nodup → p.length < g → mergeF g [p, []] w = some (w ++ p) := by
        intro p
        induction p with
        | nil =>
          intro g w _ hg
          obtain ⟨g, rfl⟩ : ∃ g', g = g' + 1 := ⟨g - 1, by omega⟩
          simp [mergeF, nul]
        | cons b p ih =>
          intro g w hp hg
          obtain ⟨g, rfl⟩ : ∃ g', g = g' + 1 := ⟨g - 1, by omega⟩
          have hnb := (List.nodup_cons.1 hp).1
          have hf2 : ([b :: p, []] : List (List Int)).filter (fun x => !nul x) = [b :: p] := by simp [nul]
          have hit2 : inTails [b :: p] b = false := by
            simp only [inTails, List.any_cons, List.tail_cons, List.any_nil, Bool.or_false]
            cases h : hasN p b with
            | false => rfl
            | true => exact absurd (hasN_iff.1 h) hnb
          unfold mergeF
          rw [hf2, if_neg (by simp)]
          have hfind2 : ([b :: p] : List (List Int)).find? (fun x => !inTails [b :: p] (hd x)) = some (b :: p) := by
            rw [List.find?_cons_of_pos]; simp [hd, hit2]
          rw [hfind2]
          simp only [hd, List.headD_cons, List.map_cons, List.map_nil, dropHd, if_true, List.tail_cons]
          have hone : ∀ (q : List Int) (g : Nat) (w : List Int), q.Nodup → q.length < g → mergeF g [q] w = some (w ++ q) := by
            intro q
            induction q with
            | nil =>
              intro g w _ hg
              obtain ⟨g, rfl⟩ : ∃ g', g = g' + 1 := ⟨g - 1, by omega⟩
              simp [mergeF, nul]
            | cons c q ih2 =>
              intro g w hq hg
              obtain ⟨g, rfl⟩ : ∃ g', g = g' + 1 := ⟨g - 1, by omega⟩
              have hnc := (List.nodup_cons.1 hq).1
              have hf3 : ([c :: q] : List (List Int)).filter (fun x => !nul x) = [c :: q] := by simp [nul]
              have hit3 : inTails [c :: q] c = false := by
                simp only [inTails, List.any_cons, List.tail_cons, List.any_nil, Bool.or_false]
                cases h : hasN q c with
                | false => rfl
                | true => exact absurd (hasN_iff.1 h) hnc
              unfold mergeF
              rw [hf3, if_neg (by simp)]
              have hfind3 : ([c :: q] : List (List Int)).find? (fun x => !inTails [c :: q] (hd x)) = some (c :: q) := by
                rw [List.find?_cons_of_pos]; simp [hd, hit3]
              rw [hfind3]
              simp only [hd, List.headD_cons, List.map_cons, List.map_nil, dropHd, if_true, List.tail_cons]
              rw [ih2 g (w ++ [c]) (List.nodup_cons.1 hq).2 (by simp at hg; omega)]
              simp
          rw [hone p g (w ++ [b]) (List.nodup_cons.1 hp).2 (by simp at hg; omega)]
          simp
      rw [hrest o f (out ++ [s]) (List.nodup_cons.1 hn).2 (by simp at hf; omega)]
      simp
    · have hso : s ∈ o := by
        rcases List.mem_cons.1 hs with h' | h'
        · exact absurd h' h
        · exact h'
      have hd2 : dropHd a [s] = [s] := if_neg (show ¬ hd [s] = a from h)
      rw [hd2]
      rw [merge_one o f (out ++ [a]) [s] (List.nodup_cons.1 hn).2 hso rfl (by simp at hf; omega)]
      simp
theorem mergeOf_one {o : List Int} {s : Int} (hn : o.Nodup) (hs : s ∈ o) : mergeOf [o, [s]] = some o := by
  unfold mergeOf
  rw [merge_one o _ [] [s] hn hs rfl (by simp [total])]
  rfl
theorem mergeOf_nil : mergeOf [[]] = some [] := by
  simp [mergeOf, mergeF, total, nul]
end Go.Proofs.Ytahgopdamgagkaa

/- What is kept by all deeds. -/
namespace Go.Proofs.Ytahgopdamgagkaa
set_option linter.all false
open Go.Vc Go.Proofs

/-- The laws of a lineage. -/
structure OK (L : List Th) : Prop where
  wf : WFL L
  root : ∀ x, L[0]? = some x → x.kind = 0 ∧ x.sup < 0
  sup : ∀ (t : Nat) (x : Th), L[t]? = some x → 0 ≤ x.sup → x.sup < L.length ∧ (thAt L x.sup).kind ≠ 1
  ins : ∀ (t : Nat) (x : Th), L[t]? = some x → ∀ u, u ∈ x.ins ∨ u ∈ x.bef → (thAt L u).kind = 1
  own : ∀ (t : Nat) (x : Th), L[t]? = some x → 0 ≤ x.own → x.own < L.length ∧ (thAt L x.own).kind = 2 ∧
    (0 ≤ x.sup → 0 ≤ (thAt L x.sup).own ∧ (thAt L x.own).sup = (thAt L x.sup).own) ∧ (x.sup < 0 → (thAt L x.own).sup = 0)
  mod : ∀ (t : Nat) (x : Th), L[t]? = some x → x.kind = 1 → x.sup < 0

theorem OK.len {L : List Th} (h : OK L) : L.length ≤ 1000 := h.wf.base.elim fun _ B => B.len
theorem thAt_get {L : List Th} {t : Nat} {x : Th} (h : L[t]? = some x) : thAt L t = x := by
  obtain ⟨h1, h2⟩ := List.getElem?_eq_some_iff.1 h
  rw [thAt_eq h1, h2]
theorem get_thAt {L : List Th} {u : Int} (h0 : 0 ≤ u) (h1 : u < L.length) : L[u.toNat]? = some (thAt L u) := by
  obtain ⟨k, rfl⟩ : ∃ k : Nat, u = k := ⟨u.toNat, by omega⟩
  rw [thAt_eq (by omega)]
  exact List.getElem?_eq_getElem (by omega)

theorem nodup_len : ∀ (l m : List Int), l.Nodup → (∀ x ∈ l, x ∈ m) → l.length ≤ m.length
  | [], _, _, _ => by simp
  | a :: l, m, hn, h => by
    have h1 := nodup_len l (m.erase a) (List.nodup_cons.1 hn).2 fun x hx => by
      have hne : x ≠ a := fun e => by subst e; exact (List.nodup_cons.1 hn).1 hx
      exact (List.mem_erase_of_ne hne).2 (h x (List.mem_cons_of_mem _ hx))
    have hm := h a List.mem_cons_self
    rw [List.length_erase_of_mem hm] at h1
    have := List.length_pos_of_mem hm
    simp only [List.length_cons]; omega

/-- How many things stand in a thing's order. -/
noncomputable def rk (L : List Th) (t : Int) : Nat := if val L t = true then (ordL L t).length else 0
theorem rk_eq {L : List Th} {t : Int} (h0 : 0 ≤ t) (h1 : t < L.length) : rk L t = (ordL L t).length := by
  unfold rk; rw [if_pos (by simp [val, h0, h1])]
theorem rk_base {L : List Th} (W : WFL L) : Base L (rk L) := by
  obtain ⟨r, B⟩ := W.base
  refine ⟨fun t x hx u hu => ?_, B.nb, B.np, B.len⟩
  have ht := (List.getElem?_eq_some_iff.1 hx).1
  have hb := B.edge _ _ hx u hu
  refine ⟨hb.1, hb.2.1, ?_⟩
  obtain ⟨k, rfl⟩ : ∃ k : Nat, u = k := ⟨u.toNat, by omega⟩
  rw [rk_eq (by omega) (by omega), rk_eq (by omega) (by omega)]
  obtain ⟨h1, h2, h3⟩ := ordOf_spec B (t := k) (by omega) (W.ord (by omega))
  have hnt : (t : Int) ∉ ordL L k := fun hm => by
    rcases (h3 _ hm).2.2 with h | h
    · have := hb.2.2
      rw [h] at this; omega
    · have := hb.2.2
      omega
  have := nodup_len ((t : Int) :: ordL L k) (ordL L t) (List.nodup_cons.2 ⟨hnt, h1⟩) fun v hv => by
    rcases List.mem_cons.1 hv with rfl | hv
    · exact (ordL_spec W ht).2.1
    · exact (mem_ordL W hx v).2 (.inr ⟨k, hu, hv⟩)
  simp only [List.length_cons] at this; omega
theorem rk_le {L : List Th} (W : WFL L) (t : Int) : rk L t ≤ 1000 := by
  unfold rk
  split
  · rename_i h
    obtain ⟨k, rfl, hk⟩ := val_nat h
    obtain ⟨r, B⟩ := W.base
    exact ord_len B hk (W.ord hk)
  · omega
theorem OK.ups {L : List Th} (h : OK L) : Ups L (rk L) := by
  refine ⟨fun t x hx h0 => ?_, h.len⟩
  have := (rk_base h.wf).edge _ _ hx x.sup (.inr (by simp [parents, h0]))
  exact ⟨this.2.1, this.2.2⟩

/-- One more thing, without lists; 'M' is 'L' but for the singletons that things have. -/
theorem grow_wf {L M : List Th} (h : OK L) (hl : M.length = L.length) (hs : ∀ (t : Nat) (x : Th), L[t]? = some x → ∃ x', M[t]? = some x' ∧ x'.bef = x.bef ∧ x'.ins = x.ins ∧ x'.sup = x.sup ∧ x'.kind = x.kind) {x : Th} (hb : x.bef = []) (hi : x.ins = [])
    (hroom : L.length + 1 ≤ 1000) (hsup : 0 ≤ x.sup → x.sup < L.length) : WFL (M ++ [x]) ∧ ∀ t : Nat, t < L.length → ordOf (M ++ [x]) t = ordOf L t := by
  have B := rk_base h.wf
  have hsame : ∀ (t : Nat) (y : Th), L[t]? = some y → ∃ y', (M ++ [x])[t]? = some y' ∧ y'.bef = y.bef ∧ parents y' = parents y := fun t y hy => by
    obtain ⟨y', e1, e2, e3, e4, _⟩ := hs t y hy
    refine ⟨y', ?_, e2, by simp only [parents, e3, e4]⟩
    rw [List.getElem?_append_left (List.getElem?_eq_some_iff.1 e1).1]; exact e1
  have hord : ∀ t : Nat, t < L.length → ordOf (M ++ [x]) t = ordOf L t := fun t ht => ordOf_same B hsame ht
  have hnew : (M ++ [x])[L.length]? = some x := by rw [← hl]; simp
  have hget : ∀ (t : Nat) (y : Th), (M ++ [x])[t]? = some y → (t < L.length ∧ ∃ z, L[t]? = some z ∧ y.bef = z.bef ∧ parents y = parents z) ∨ (t = L.length ∧ y = x) := fun t y hy => by
    rcases Nat.lt_or_ge t L.length with ht | ht
    · obtain ⟨y', e1, e2, e3⟩ := hsame t _ (List.getElem?_eq_getElem ht)
      rw [hy] at e1; cases e1
      exact .inl ⟨ht, _, List.getElem?_eq_getElem ht, e2, e3⟩
    · have h1 := (List.getElem?_eq_some_iff.1 hy).1
      simp only [List.length_append, List.length_singleton] at h1
      obtain rfl : t = L.length := by omega
      rw [hnew] at hy
      exact .inr ⟨rfl, (Option.some.inj hy).symm⟩
  let r' : Int → Nat := fun u => if u = L.length then 1001 else rk L u
  have hr' : ∀ u : Int, 0 ≤ u → u < L.length → r' u = rk L u := fun u h0 h1 => by simp only [r']; rw [if_neg (by omega)]
  have B' : Base (M ++ [x]) r' := by
    refine ⟨fun t y hy u hu => ?_, fun t y hy => ?_, fun t y hy => ?_, by simp; omega⟩
    · rcases hget t y hy with ⟨ht, z, hz, e1, e2⟩ | ⟨rfl, rfl⟩
      · have := B.edge t z hz u (by rw [← e1, ← e2]; exact hu)
        refine ⟨this.1, by simp; omega, ?_⟩
        rw [hr' u this.1 this.2.1, hr' t (by omega) (by omega)]
        exact this.2.2
      · have hu' : u = y.sup ∧ 0 ≤ y.sup := by
          rcases hu with hu | hu
          · rw [hb] at hu; cases hu
          · simp only [parents, hi, List.nil_append] at hu
            split at hu
            · rename_i h0; exact ⟨by simpa using hu, h0⟩
            · cases hu
        obtain ⟨rfl, h0⟩ := hu'
        have h1 := hsup h0
        refine ⟨h0, by simp; omega, ?_⟩
        rw [hr' _ h0 h1]
        have := rk_le h.wf y.sup
        simp only [r', if_true]; omega
    · rcases hget t y hy with ⟨ht, z, hz, e1, e2⟩ | ⟨rfl, rfl⟩
      · rw [e1]; exact B.nb t z hz
      · rw [hb]; exact List.nodup_nil
    · rcases hget t y hy with ⟨ht, z, hz, e1, e2⟩ | ⟨rfl, rfl⟩
      · rw [e2]; exact B.np t z hz
      · simp only [parents, hi, List.nil_append]; split <;> simp
  refine ⟨⟨⟨r', B'⟩, fun t ht => ?_⟩, hord⟩
  simp only [List.length_append, List.length_singleton] at ht
  rcases Nat.lt_or_ge t L.length with h1 | h1
  · rw [hord t h1]; exact h.wf.full t h1
  · obtain rfl : t = L.length := by omega
    rw [ordOf_step B' hnew, hb]
    have e1 : mergedF (ordOf (M ++ [x])) [] = some [] := by
      show mergeOf ([] ++ [[]]) = some []
      exact mergeOf_nil
    rw [e1]
    simp only
    by_cases h0 : 0 ≤ x.sup
    · have h1 := hsup h0
      obtain ⟨k, hk⟩ : ∃ k : Nat, x.sup = k := ⟨x.sup.toNat, by omega⟩
      have hkl : k < L.length := by omega
      have hp : parents x = [(k : Int)] := by simp [parents, hi, h0, hk]
      have hok := h.wf.ord hkl
      obtain ⟨s1, s2, _⟩ := ordL_spec h.wf hkl
      have e2 : mergedF (ordOf (M ++ [x])) [(k : Int)] = some (ordL L k) := by
        unfold mergedF ordersOf
        rw [hord k hkl, hok]
        show mergeOf [ordL L k, [(k : Int)]] = _
        exact mergeOf_one s1 s2
      rw [hp, e2]
      exact ⟨_, rfl⟩
    · have hp : parents x = [] := by simp [parents, hi, h0]
      rw [hp, e1]
      exact ⟨_, rfl⟩

theorem add_OK {L : List Th} (h : OK L) (hpos : 0 < L.length) {k s o : Int} (hroom : L.length + 1 ≤ 1000) (hs : 0 ≤ s → s < L.length ∧ (thAt L s).kind ≠ 1) (hk : k = 1 → s < 0) :
    OK (L ++ [newTh k s o]) ∧ ∀ t : Nat, t < L.length → ordOf (L ++ [newTh k s o]) t = ordOf L t := by
  obtain ⟨W, hord⟩ := grow_wf h rfl (fun t x hx => ⟨x, hx, rfl, rfl, rfl, rfl⟩) (x := newTh k s o) rfl rfl hroom (fun h0 => (hs h0).1)
  have hth : ∀ u : Int, 0 ≤ u → u < L.length → thAt (L ++ [newTh k s o]) u = thAt L u := fun u h0 h1 => by
    obtain ⟨j, rfl⟩ : ∃ j : Nat, u = j := ⟨u.toNat, by omega⟩
    rw [thAt_eq (L := L) (by omega), thAt_eq (L := L ++ [newTh k s o]) (by simp; omega), List.getElem_append_left]
  have hget : ∀ (t : Nat) (y : Th), (L ++ [newTh k s o])[t]? = some y → (t < L.length ∧ L[t]? = some y) ∨ (t = L.length ∧ y = newTh k s o) := fun t y hy => by
    rcases Nat.lt_or_ge t L.length with ht | ht
    · rw [List.getElem?_append_left ht] at hy; exact .inl ⟨ht, hy⟩
    · have h1 := (List.getElem?_eq_some_iff.1 hy).1
      simp only [List.length_append, List.length_singleton] at h1
      obtain rfl : t = L.length := by omega
      simp at hy
      exact .inr ⟨rfl, hy.symm⟩
  have hval : ∀ (t : Nat) (y : Th), L[t]? = some y → ∀ u, u ∈ y.ins ∨ u ∈ y.bef → 0 ≤ u ∧ u < L.length := fun t y hy u hu => edge_val h.wf hy (by
    rcases hu with hu | hu
    · exact .inr (by simp [parents, hu])
    · exact .inl hu)
  refine ⟨⟨W, fun x hx => ?_, fun t x hx h0 => ?_, fun t x hx u hu => ?_, fun t x hx h0 => ?_, fun t x hx h1 => ?_⟩, hord⟩
  · rcases hget 0 x hx with ⟨_, hx⟩ | ⟨h0, _⟩
    · exact h.root x hx
    · omega
  · rcases hget t x hx with ⟨_, hx⟩ | ⟨_, rfl⟩
    · have := h.sup t x hx h0
      exact ⟨by simp; omega, by rw [hth _ h0 this.1]; exact this.2⟩
    · have h0' : 0 ≤ s := h0
      have := hs h0'
      exact ⟨by simp [newTh]; omega, by rw [show (newTh k s o).sup = s from rfl, hth s h0' this.1]; exact this.2⟩
  · rcases hget t x hx with ⟨_, hx⟩ | ⟨_, rfl⟩
    · have hv := hval t x hx u hu
      rw [hth u hv.1 hv.2]; exact h.ins t x hx u hu
    · rcases hu with hu | hu <;> cases hu
  · rcases hget t x hx with ⟨_, hx⟩ | ⟨_, rfl⟩
    · obtain ⟨q1, q2, q3, q4⟩ := h.own t x hx h0
      refine ⟨by simp; omega, by rw [hth _ h0 q1]; exact q2, fun h1 => ?_, fun h1 => ?_⟩
      · have hsv := (h.sup t x hx h1).1
        rw [hth _ h1 hsv, hth _ h0 q1]; exact q3 h1
      · rw [hth _ h0 q1]; exact q4 h1
    · simp only [newTh] at h0; omega
  · rcases hget t x hx with ⟨_, hx⟩ | ⟨_, rfl⟩
    · exact h.mod t x hx h1
    · exact hk h1

theorem L0_OK : OK L0 := by
  have hx : ∀ (t : Nat) (x : Th), L0[t]? = some x → t = 0 ∧ x = ⟨0, -1, -1, -1, [], []⟩ := fun t x h => by
    cases t with
    | zero => simp [L0] at h; exact ⟨rfl, h.symm⟩
    | succ t => simp [L0] at h
  have B : Base L0 (fun _ => 0) := ⟨fun t x h u hu => by obtain ⟨rfl, rfl⟩ := hx t x h; simp [parents] at hu, fun t x h => by obtain ⟨rfl, rfl⟩ := hx t x h; simp, fun t x h => by obtain ⟨rfl, rfl⟩ := hx t x h; simp [parents], by simp [L0]⟩
  refine ⟨⟨⟨_, B⟩, fun t ht => ?_⟩, fun x h => ?_, fun t x h h0 => ?_, fun t x h u hu => ?_, fun t x h h0 => ?_, fun t x h h1 => ?_⟩
  · have ht0 : t = 0 := by simp [L0] at ht; exact ht
    subst ht0
    refine ⟨[0], ordOf_of (n := 1) ?_⟩
    unfold ordF
    simp only [L0]
    have e1 : ∀ g, mergedF g [] = some [] := fun g => by
      show mergeOf ([] ++ [[]]) = some []
      exact mergeOf_nil
    simp [e1, parents]
  · obtain ⟨_, rfl⟩ := hx 0 x h; exact ⟨rfl, by decide⟩
  · obtain ⟨_, rfl⟩ := hx t x h; simp at h0
  · obtain ⟨_, rfl⟩ := hx t x h; simp at hu
  · obtain ⟨_, rfl⟩ := hx t x h; simp at h0
  · obtain ⟨_, rfl⟩ := hx t x h; simp at h1
end Go.Proofs.Ytahgopdamgagkaa

/- Includes and singletons of classes keep the laws. -/
namespace Go.Proofs.Ytahgopdamgagkaa
set_option linter.all false
open Go.Vc Go.Proofs

theorem base_put {L : List Th} (h : OK L) {t : Nat} {x x' : Th} (hx : L[t]? = some x) {m : Int} (hm0 : 0 ≤ m) (hm1 : m < L.length) (hh : hasN (ordL L m) t = false)
    (he : ∀ u, edge x' u → u = m ∨ edge x u) (hnb : x'.bef.Nodup) (hnp : (parents x').Nodup) : ∃ r, Base (L.set t x') r := by
  have B := rk_base h.wf
  have ht := (List.getElem?_eq_some_iff.1 hx).1
  obtain ⟨m, rfl⟩ : ∃ k : Nat, m = k := ⟨m.toNat, by omega⟩
  let r' : Int → Nat := fun u => rk L u + if hasN (ordL L u) t = true then rk L m + 1 else 0
  have key : ∀ (k : Nat) (y : Th), L[k]? = some y → ∀ u, edge y u → r' u < r' k := fun k y hy u hu => by
    have hb := B.edge _ _ hy u hu
    simp only [r']
    by_cases hc : hasN (ordL L u) t = true
    · have hk : hasN (ordL L k) t = true := hasN_iff.2 ((mem_ordL h.wf hy _).2 (.inr ⟨u, hu, hasN_iff.1 hc⟩))
      rw [if_pos hc, if_pos hk]; have := hb.2.2; omega
    · rw [if_neg hc]; have := hb.2.2; omega
  have hget : ∀ (k : Nat) (y : Th), (L.set t x')[k]? = some y → (k = t ∧ y = x') ∨ (k ≠ t ∧ L[k]? = some y) := fun k y hy => by
    by_cases e : t = k
    · subst e
      rw [List.getElem?_set_self ht] at hy
      exact .inl ⟨rfl, (Option.some.inj hy).symm⟩
    · rw [List.getElem?_set_ne e] at hy; exact .inr ⟨fun h => e h.symm, hy⟩
  refine ⟨r', fun k y hy u hu => ?_, fun k y hy => ?_, fun k y hy => ?_, by simpa using B.len⟩
  · rw [List.length_set]
    rcases hget k y hy with ⟨rfl, rfl⟩ | ⟨_, hy⟩
    · rcases he u hu with rfl | hu
      · refine ⟨by omega, by omega, ?_⟩
        have hkk : hasN (ordL L k) k = true := hasN_iff.2 (ordL_spec h.wf ht).2.1
        simp only [r']
        rw [if_neg (by rw [hh]; simp), if_pos hkk]; omega
      · have := B.edge _ _ hx u hu
        exact ⟨this.1, this.2.1, key _ _ hx u hu⟩
    · have := B.edge _ _ hy u hu
      exact ⟨this.1, this.2.1, key _ _ hy u hu⟩
  · rcases hget k y hy with ⟨rfl, rfl⟩ | ⟨_, hy⟩
    · exact hnb
    · exact B.nb _ _ hy
  · rcases hget k y hy with ⟨rfl, rfl⟩ | ⟨_, hy⟩
    · exact hnp
    · exact B.np _ _ hy

theorem put_OK {L : List Th} (h : OK L) {t : Nat} {x x' : Th} (hx : L[t]? = some x) {m : Int} (hmk : (thAt L m).kind = 1) (hk : x'.kind = x.kind) (hs : x'.sup = x.sup) (ho : x'.own = x.own)
    (hi : ∀ u, u ∈ x'.ins ∨ u ∈ x'.bef → u = m ∨ (u ∈ x.ins ∨ u ∈ x.bef)) (W : WFL (L.set t x')) : OK (L.set t x') := by
  have ht := (List.getElem?_eq_some_iff.1 hx).1
  have hth : ∀ u : Int, (thAt (L.set t x') u).kind = (thAt L u).kind ∧ (thAt (L.set t x') u).sup = (thAt L u).sup ∧ (thAt (L.set t x') u).own = (thAt L u).own := fun u => by
    unfold thAt
    rw [List.getD_eq_getElem?_getD, List.getD_eq_getElem?_getD]
    by_cases e : t = u.toNat
    · rw [← e, List.getElem?_set_self ht, hx]; exact ⟨hk, hs, ho⟩
    · rw [List.getElem?_set_ne e]; exact ⟨rfl, rfl, rfl⟩
  have hget : ∀ (k : Nat) (y : Th), (L.set t x')[k]? = some y → ∃ z, L[k]? = some z ∧ y.kind = z.kind ∧ y.sup = z.sup ∧ y.own = z.own ∧ ∀ u, u ∈ y.ins ∨ u ∈ y.bef → u = m ∨ (u ∈ z.ins ∨ u ∈ z.bef) := fun k y hy => by
    by_cases e : t = k
    · subst e
      rw [List.getElem?_set_self ht] at hy
      cases hy
      exact ⟨x, hx, hk, hs, ho, hi⟩
    · rw [List.getElem?_set_ne e] at hy; exact ⟨y, hy, rfl, rfl, rfl, fun u hu => .inr hu⟩
  refine ⟨W, fun y hy => ?_, fun k y hy h0 => ?_, fun k y hy u hu => ?_, fun k y hy h0 => ?_, fun k y hy h1 => ?_⟩
  · obtain ⟨z, hz, e1, e2, _⟩ := hget 0 y hy
    rw [e1, e2]; exact h.root z hz
  · obtain ⟨z, hz, e1, e2, e3, _⟩ := hget k y hy
    rw [List.length_set, e2, (hth _).1]
    exact h.sup k z hz (by rw [← e2]; exact h0)
  · obtain ⟨z, hz, e1, e2, e3, e4⟩ := hget k y hy
    rw [(hth u).1]
    rcases e4 u hu with rfl | hu
    · exact hmk
    · exact h.ins k z hz u hu
  · obtain ⟨z, hz, e1, e2, e3, e4⟩ := hget k y hy
    rw [List.length_set, e2, e3, (hth _).1, (hth _).2.1, (hth _).2.2]
    exact h.own k z hz (by rw [← e3]; exact h0)
  · obtain ⟨z, hz, e1, e2, e3, e4⟩ := hget k y hy
    rw [e2]; exact h.mod k z hz (by rw [← e1]; exact h1)

/-- A class gets its singleton. -/
theorem own_OK {L : List Th} (h : OK L) (hpos : 0 < L.length) {t : Nat} {x : Th} (hx : L[t]? = some x) (hroom : L.length + 1 ≤ 1000) (hno : x.own < 0) {w : Int} (hk2 : x.kind ≠ 2 ∨ True)
    (hw : (0 ≤ x.sup → w = (thAt L x.sup).own ∧ 0 ≤ w) ∧ (x.sup < 0 → w = 0)) :
    OK ((L ++ [newTh 2 w (-1)]).set t { x with own := (L.length : Int) }) ∧ ∀ k : Nat, k < L.length → ordOf ((L ++ [newTh 2 w (-1)]).set t { x with own := (L.length : Int) }) k = ordOf L k := by
  have ht := (List.getElem?_eq_some_iff.1 hx).1
  have hwv : 0 ≤ w ∧ w < L.length ∧ (thAt L w).kind ≠ 1 := by
    by_cases h0 : 0 ≤ x.sup
    · obtain ⟨q1, q2⟩ := hw.1 h0
      have hs := (h.sup t x hx h0).1
      obtain ⟨o1, o2, _⟩ := h.own _ _ (get_thAt h0 hs) (by rw [← q1]; exact q2)
      rw [← q1] at o1 o2
      exact ⟨q2, o1, by rw [o2]; decide⟩
    · have := hw.2 (by omega)
      subst this
      have hr := h.root _ (List.getElem?_eq_getElem hpos)
      refine ⟨by omega, by omega, ?_⟩
      have : thAt L 0 = L[0] := thAt_eq (t := 0) hpos
      rw [this, hr.1]; decide
  have hset : (L ++ [newTh 2 w (-1)]).set t { x with own := (L.length : Int) } = L.set t { x with own := (L.length : Int) } ++ [newTh 2 w (-1)] := List.set_append_left _ _ ht
  rw [hset]
  have hM : ∀ (k : Nat) (y : Th), L[k]? = some y → ∃ y', (L.set t { x with own := (L.length : Int) })[k]? = some y' ∧ y'.bef = y.bef ∧ y'.ins = y.ins ∧ y'.sup = y.sup ∧ y'.kind = y.kind := fun k y hy => by
    by_cases e : t = k
    · subst e
      rw [hx] at hy; cases hy
      exact ⟨_, List.getElem?_set_self ht, rfl, rfl, rfl, rfl⟩
    · exact ⟨y, by rw [List.getElem?_set_ne e]; exact hy, rfl, rfl, rfl, rfl⟩
  obtain ⟨W, hord⟩ := grow_wf h (M := L.set t { x with own := (L.length : Int) }) (by simp) hM (x := newTh 2 w (-1)) rfl rfl hroom (fun _ => hwv.2.1)
  refine ⟨?_, hord⟩
  have hth : ∀ u : Int, 0 ≤ u → u < L.length → thAt (L.set t { x with own := (L.length : Int) } ++ [newTh 2 w (-1)]) u = if u = t then { x with own := (L.length : Int) } else thAt L u := fun u h0 h1 => by
    obtain ⟨j, rfl⟩ : ∃ j : Nat, u = j := ⟨u.toNat, by omega⟩
    rw [thAt_eq (L := L.set t { x with own := (L.length : Int) } ++ [newTh 2 w (-1)]) (by simp; omega), List.getElem_append_left (by simp; omega)]
    by_cases e : t = j
    · subst e; simp
    · rw [List.getElem_set_ne e, if_neg (by omega), thAt_eq (by omega)]
  have hthk : ∀ u : Int, 0 ≤ u → u < L.length → (thAt (L.set t { x with own := (L.length : Int) } ++ [newTh 2 w (-1)]) u).kind = (thAt L u).kind ∧ (thAt (L.set t { x with own := (L.length : Int) } ++ [newTh 2 w (-1)]) u).sup = (thAt L u).sup := fun u h0 h1 => by
    rw [hth u h0 h1]
    split
    · rename_i e; subst e; rw [thAt_get hx]; exact ⟨rfl, rfl⟩
    · exact ⟨rfl, rfl⟩
  have hnew : thAt (L.set t { x with own := (L.length : Int) } ++ [newTh 2 w (-1)]) L.length = newTh 2 w (-1) := by
    rw [thAt_eq (by simp)]
    rw [List.getElem_append_right (by simp)]; simp
  have hget : ∀ (k : Nat) (y : Th), (L.set t { x with own := (L.length : Int) } ++ [newTh 2 w (-1)])[k]? = some y → (k < L.length ∧ ∃ z, L[k]? = some z ∧ y.kind = z.kind ∧ y.sup = z.sup ∧ y.ins = z.ins ∧ y.bef = z.bef ∧ ((y.own = z.own ∧ k ≠ t) ∨ (k = t ∧ z = x ∧ y.own = L.length))) ∨ (k = L.length ∧ y = newTh 2 w (-1)) := fun k y hy => by
    rcases Nat.lt_or_ge k L.length with hk | hk
    · rw [List.getElem?_append_left (by simpa using hk)] at hy
      refine .inl ⟨hk, ?_⟩
      by_cases e : t = k
      · subst e
        rw [List.getElem?_set_self ht] at hy
        cases hy
        exact ⟨x, hx, rfl, rfl, rfl, rfl, .inr ⟨rfl, rfl, rfl⟩⟩
      · rw [List.getElem?_set_ne e] at hy
        exact ⟨y, hy, rfl, rfl, rfl, rfl, .inl ⟨rfl, fun h => e h.symm⟩⟩
    · have h1 := (List.getElem?_eq_some_iff.1 hy).1
      simp only [List.length_append, List.length_set, List.length_singleton] at h1
      obtain rfl : k = L.length := by omega
      rw [List.getElem?_append_right (by simp)] at hy
      simp at hy
      exact .inr ⟨rfl, hy.symm⟩
  have hlen : ((L.set t { x with own := (L.length : Int) } ++ [newTh 2 w (-1)]).length : Int) = L.length + 1 := by simp
  refine ⟨W, fun y hy => ?_, fun k y hy h0 => ?_, fun k y hy u hu => ?_, fun k y hy h0 => ?_, fun k y hy h1 => ?_⟩
  · rcases hget 0 y hy with ⟨_, z, hz, e1, e2, _⟩ | ⟨h0, _⟩
    · rw [e1, e2]; exact h.root z hz
    · omega
  · rcases hget k y hy with ⟨_, z, hz, e1, e2, _⟩ | ⟨_, rfl⟩
    · have := h.sup k z hz (by rw [← e2]; exact h0)
      rw [hlen, e2, (hthk _ (by rw [← e2]; exact h0) this.1).1]
      exact ⟨by omega, this.2⟩
    · rw [hlen, show (newTh 2 w (-1)).sup = w from rfl, (hthk w hwv.1 hwv.2.1).1]
      exact ⟨by omega, hwv.2.2⟩
  · rcases hget k y hy with ⟨_, z, hz, e1, e2, e3, e4, _⟩ | ⟨_, rfl⟩
    · rw [e3, e4] at hu
      have hv := edge_val h.wf hz (u := u) (by
        rcases hu with hu | hu
        · exact .inr (by simp [parents, hu])
        · exact .inl hu)
      rw [(hthk u hv.1 hv.2).1]; exact h.ins k z hz u hu
    · rcases hu with hu | hu <;> cases hu
  · rcases hget k y hy with ⟨_, z, hz, e1, e2, e3, e4, e5⟩ | ⟨_, rfl⟩
    · rcases e5 with ⟨e5, hkt⟩ | ⟨rfl, rfl, e5⟩
      · rw [e5] at h0 ⊢
        obtain ⟨q1, q2, q3, q4⟩ := h.own k z hz h0
        rw [hlen, (hthk _ h0 q1).1, (hthk _ h0 q1).2, e2]
        refine ⟨by omega, q2, fun hs => ?_, q4⟩
        obtain ⟨p1, p2⟩ := q3 hs
        have hsv := (h.sup k z hz hs).1
        rw [hth _ hs hsv]
        split
        · rename_i e
          rw [e, thAt_get hx] at p1; omega
        · exact ⟨p1, p2⟩
      · rw [e5, hlen, hnew, e2]
        refine ⟨by omega, rfl, fun hs => ?_, fun hs => ?_⟩
        · obtain ⟨p1, p2⟩ := hw.1 hs
          have hsv := (h.sup k z hx hs).1
          have hne : z.sup ≠ k := fun e => by
            rw [e, thAt_get hx] at p1; omega
          rw [hth _ hs hsv, if_neg hne, ← p1]
          exact ⟨p2, rfl⟩
        · exact hw.2 hs
    · simp only [newTh] at h0; omega
  · rcases hget k y hy with ⟨_, z, hz, e1, e2, _⟩ | ⟨_, rfl⟩
    · rw [e2]; exact h.mod k z hz (by rw [← e1]; exact h1)
    · simp [newTh] at h1
end Go.Proofs.Ytahgopdamgagkaa

/- Deeds keep the laws. -/
namespace Go.Proofs.Ytahgopdamgagkaa
set_option linter.all false
open Go.Vc Go.Proofs

/-- All but the singletons that things have. -/
def Same (L L' : List Th) (r : Nat → Prop) : Prop := ∀ (k : Nat) (x : Th), L[k]? = some x → ∃ x', L'[k]? = some x' ∧ x'.kind = x.kind ∧ x'.sup = x.sup ∧ (0 ≤ x.own → x'.own = x.own) ∧ (r k → x'.own = x.own)

theorem mkF_OK : ∀ (n : Nat) {L : List Th} (h : OK L) (hpos : 0 < L.length) {t : Nat} (ht : t < L.length), rk L t < n → L.length + missF n L t ≤ 1000 →
    OK (mkF n L t).1 ∧ 0 ≤ (mkF n L t).2 ∧ (thAt (mkF n L t).1 t).own = (mkF n L t).2 ∧ (∀ k : Nat, k < L.length → ordOf (mkF n L t).1 k = ordOf L k) ∧ Same L (mkF n L t).1 fun k => rk L t < rk L k
  | 0, _, _, _, _, _, h, _ => by omega
  | n + 1, L, h, hpos, t, ht, hr, hroom => by
    have hx : L[t]? = some L[t] := List.getElem?_eq_getElem ht
    have hth := thAt_eq ht
    by_cases h1 : 0 ≤ L[t].own
    · have hm : mkF (n + 1) L t = (L, L[t].own) := by unfold mkF; rw [hth, if_pos h1]
      rw [hm]
      exact ⟨h, h1, by rw [hth], fun _ _ => rfl, fun k x hx => ⟨x, hx, rfl, rfl, fun _ => rfl, fun _ => rfl⟩⟩
    · by_cases h2 : 0 ≤ L[t].sup
      · obtain ⟨q1, q2⟩ := h.ups.up t _ hx h2
        obtain ⟨s, hs⟩ : ∃ s : Nat, L[t].sup = s := ⟨L[t].sup.toNat, by omega⟩
        rw [hs] at q1 q2
        have hms : missF (n + 1) L t = 1 + missF n L s := by rw [missF, hth, if_neg h1, if_pos (by omega), hs]
        have hs0 : (0 : Int) ≤ s := by omega
        have hpl := mkF_len n L s
        obtain ⟨p1, p2, p3, p4, p5⟩ := mkF_OK n h hpos (t := s) (by omega) (by omega) (by omega)
        have hm : mkF (n + 1) L t = (((mkF n L s).1 ++ [newTh 2 (mkF n L s).2 (-1)]).set t { thAt ((mkF n L s).1 ++ [newTh 2 (mkF n L s).2 (-1)]) t with own := ((mkF n L s).1.length : Int) }, ((mkF n L s).1.length : Int)) := by
          rw [mkF, hth, if_neg h1]
          simp only [hs, hs0, if_true, Int.toNat_natCast]
        rw [hm]
        generalize mkF n L s = p at *
        obtain ⟨L1, w⟩ := p
        simp only at *
        obtain ⟨x1, hx1, e1, e2, e3, e4⟩ := p5 t _ hx
        have ht1 : t < L1.length := by omega
        have hq : thAt (L1 ++ [newTh 2 w (-1)]) t = x1 := by
          rw [thAt_eq (by simp; omega), List.getElem_append_left ht1]
          exact (List.getElem?_eq_some_iff.1 hx1).2
        rw [hq]
        have ho : x1.own < 0 := by rw [e4 q2]; omega
        obtain ⟨k1, k2⟩ := own_OK p1 (by omega) hx1 (by omega) ho (w := w) (.inr trivial) ⟨fun h0 => by rw [e2, hs, p3]; exact ⟨rfl, p2⟩, fun h0 => by rw [e2, hs] at h0; omega⟩
        have hset : (L1 ++ [newTh 2 w (-1)]).set t { x1 with own := (L1.length : Int) } = L1.set t { x1 with own := (L1.length : Int) } ++ [newTh 2 w (-1)] := List.set_append_left _ _ ht1
        refine ⟨k1, by omega, ?_, fun k hk => ?_, fun k x hx => ?_⟩
        · rw [thAt_eq (by simp; omega)]; simp
        · rw [k2 k (by omega), p4 k hk]
        · obtain ⟨y, hy, f1, f2, f3, f4⟩ := p5 k x hx
          have hkl := (List.getElem?_eq_some_iff.1 hy).1
          rw [hset, List.getElem?_append_left (by simpa using hkl)]
          by_cases e : t = k
          · subst e
            rw [hx1] at hy; cases hy
            refine ⟨_, List.getElem?_set_self ht1, f1, f2, fun h0 => ?_, fun h0 => by omega⟩
            have hxe := (List.getElem?_eq_some_iff.1 hx).2
            rw [← hxe] at h0; omega
          · exact ⟨y, by rw [List.getElem?_set_ne e]; exact hy, f1, f2, f3, fun h0 => f4 (by omega)⟩
      · have hms : missF (n + 1) L t = 1 := by rw [missF, hth, if_neg h1, if_neg h2]
        have hm : mkF (n + 1) L t = ((L ++ [newTh 2 0 (-1)]).set t { thAt (L ++ [newTh 2 0 (-1)]) t with own := (L.length : Int) }, (L.length : Int)) := by
          rw [mkF, hth, if_neg h1]
          simp only [h2, if_false, Int.toNat_natCast]
        rw [hm]
        have hq : thAt (L ++ [newTh 2 0 (-1)]) t = L[t] := by
          rw [thAt_eq (by simp; omega), List.getElem_append_left ht]
        rw [hq]
        obtain ⟨k1, k2⟩ := own_OK h hpos hx (by omega) (by omega) (w := 0) (.inr trivial) ⟨fun h0 => absurd h0 h2, fun _ => rfl⟩
        have hset : (L ++ [newTh 2 0 (-1)]).set t { L[t] with own := (L.length : Int) } = L.set t { L[t] with own := (L.length : Int) } ++ [newTh 2 0 (-1)] := List.set_append_left _ _ ht
        refine ⟨k1, by simp only; omega, ?_, k2, fun k y hy => ?_⟩
        · rw [thAt_eq (by simp; omega)]; simp
        · have hkl := (List.getElem?_eq_some_iff.1 hy).1
          simp only
          rw [hset, List.getElem?_append_left (by simpa using hkl)]
          by_cases e : t = k
          · subst e
            rw [hx] at hy
            cases hy
            exact ⟨_, List.getElem?_set_self ht, rfl, rfl, fun h0 => by omega, fun h0 => by omega⟩
          · exact ⟨y, by rw [List.getElem?_set_ne e]; exact hy, rfl, rfl, fun _ => rfl, fun _ => rfl⟩

structure Deed where
  op : Int
  a : Int
  b : Int
noncomputable def doOf (L : List Th) (d : Deed) : List Th × Int × Int :=
  if d.op = 0 then classOf L d.a
  else if d.op = 1 then moduleOf L
  else if d.op = 2 then ((putI L d.a d.b).1, 0, (putI L d.a d.b).2)
  else if d.op = 3 then ((putP L d.a d.b).1, 0, (putP L d.a d.b).2)
  else if d.op = 4 then singletonOf L d.a d.b
  else if d.op = 5 then ownOf L d.a
  else (L, 0, 0)

theorem hasN_false {l : List Int} {v : Int} (h : hasN l v = false) : v ∉ l := fun hm => by rw [hasN_iff.2 hm] at h; cases h

theorem parents_cons {L : List Th} (h : OK L) {t : Nat} {x : Th} (hx : L[t]? = some x) {m : Int} (hm0 : 0 ≤ m) (hk : (thAt L m).kind = 1) (hd : m ∉ x.ins) : (m :: parents x).Nodup := by
  refine List.nodup_cons.2 ⟨fun hm => ?_, (rk_base h.wf).np t x hx⟩
  simp only [parents, List.mem_append] at hm
  rcases hm with hm | hm
  · exact hd hm
  · split at hm
    · rename_i h0
      simp only [List.mem_singleton] at hm
      subst hm
      exact (h.sup t x hx h0).2 hk
    · cases hm
theorem baseI {L : List Th} (h : OK L) (m : Int) (t : Nat) (ht : t < L.length) (hv : val L m = true) (hk : (thAt L m).kind = 1) (hd : hasN (thAt L t).ins m = false) (hh : hasN (ordL L m) t = false) :
    ∃ r, Base (withI L t (m :: (thAt L t).ins)) r := by
  have hx : L[t]? = some L[t] := List.getElem?_eq_getElem ht
  rw [thAt_eq ht] at *
  rw [withI_eq ht]
  simp only [val, decide_eq_true_eq] at hv
  refine base_put h hx hv.1 hv.2 hh (fun u hu => ?_) (show L[t].bef.Nodup from (rk_base h.wf).nb t _ hx) ?_
  · rcases hu with hu | hu
    · exact .inr (.inl hu)
    · simp only [parents, List.cons_append, List.mem_cons] at hu
      rcases hu with hu | hu
      · exact .inl hu
      · exact .inr (.inr hu)
  · exact parents_cons h hx hv.1 hk (hasN_false hd)
theorem baseP {L : List Th} (h : OK L) (m : Int) (t : Nat) (ht : t < L.length) (hv : val L m = true) (hk : (thAt L m).kind = 1) (hd : hasN (thAt L t).bef m = false) (hh : hasN (ordL L m) t = false) :
    ∃ r, Base (withP L t (m :: (thAt L t).bef)) r := by
  have hx : L[t]? = some L[t] := List.getElem?_eq_getElem ht
  rw [thAt_eq ht] at *
  rw [withP_eq ht]
  simp only [val, decide_eq_true_eq] at hv
  refine base_put h hx hv.1 hv.2 hh (fun u hu => ?_) (List.nodup_cons.2 ⟨hasN_false hd, show L[t].bef.Nodup from (rk_base h.wf).nb t _ hx⟩) (show (parents L[t]).Nodup from (rk_base h.wf).np t _ hx)
  rcases hu with hu | hu
  · rcases List.mem_cons.1 hu with hu | hu
    · exact .inl hu
    · exact .inr (.inl hu)
  · exact .inr (.inr hu)

/-- What a put that is done says. -/
theorem putI_cases {L : List Th} (h : OK L) (t m : Int) : (putI L t m).1 = L ∧ (putI L t m).2 ≠ 0 ∨
    ∃ k : Nat, t = k ∧ k < L.length ∧ val L m = true ∧ (thAt L m).kind = 1 ∧ putI L t m = (withI L k (m :: (thAt L k).ins), 0) ∧ OK (withI L k (m :: (thAt L k).ins)) ∧ (withI L k (m :: (thAt L k).ins)).length = L.length := by
  unfold putI
  split
  · exact .inl ⟨rfl, by simp⟩
  · rename_i h0
    split
    · exact .inl ⟨rfl, by simp⟩
    · rename_i hd
      split
      · exact .inl ⟨rfl, by simp⟩
      · rename_i hh
        split
        · rename_i hf
          have h1 : val L t = true ∧ val L m = true ∧ (thAt L m).kind = 1 := by simpa using h0
          obtain ⟨k, rfl, hk⟩ := val_nat h1.1
          have hh' : hasN (ordL L m) k = false := by
            cases e : hasN (ordL L m) k with
            | false => rfl
            | true => exact absurd (.inr e) hh
          have B := baseI h m k hk h1.2.1 h1.2.2 (by simpa using hd) hh'
          simp only [Int.toNat_natCast] at hf ⊢
          have hl : (withI L k (m :: (thAt L k).ins)).length = L.length := by rw [withI_eq hk]; simp
          have W : WFL (withI L k (m :: (thAt L k).ins)) := ⟨B, fun j hj => hf j (by omega)⟩
          refine .inr ⟨k, rfl, hk, h1.2.1, h1.2.2, rfl, ?_, hl⟩
          rw [withI_eq hk] at W ⊢
          refine put_OK h (List.getElem?_eq_getElem hk) h1.2.2 rfl rfl rfl (fun u hu => ?_) W
          rcases hu with hu | hu
          · rcases List.mem_cons.1 hu with hu | hu
            · exact .inl hu
            · rw [thAt_eq hk] at hu; exact .inr (.inl hu)
          · exact .inr (.inr hu)
        · exact .inl ⟨rfl, by simp⟩
theorem putP_cases {L : List Th} (h : OK L) (t m : Int) : (putP L t m).1 = L ∧ (putP L t m).2 ≠ 0 ∨
    ∃ k : Nat, t = k ∧ k < L.length ∧ val L m = true ∧ (thAt L m).kind = 1 ∧ putP L t m = (withP L k (m :: (thAt L k).bef), 0) ∧ OK (withP L k (m :: (thAt L k).bef)) ∧ (withP L k (m :: (thAt L k).bef)).length = L.length := by
  unfold putP
  split
  · exact .inl ⟨rfl, by simp⟩
  · rename_i h0
    split
    · exact .inl ⟨rfl, by simp⟩
    · rename_i hd
      split
      · exact .inl ⟨rfl, by simp⟩
      · rename_i hh
        split
        · rename_i hf
          have h1 : val L t = true ∧ val L m = true ∧ (thAt L m).kind = 1 := by simpa using h0
          obtain ⟨k, rfl, hk⟩ := val_nat h1.1
          have hh' : hasN (ordL L m) k = false := by
            cases e : hasN (ordL L m) k with
            | false => rfl
            | true => exact absurd (.inr e) hh
          have B := baseP h m k hk h1.2.1 h1.2.2 (by simpa using hd) hh'
          simp only [Int.toNat_natCast] at hf ⊢
          have hl : (withP L k (m :: (thAt L k).bef)).length = L.length := by rw [withP_eq hk]; simp
          have W : WFL (withP L k (m :: (thAt L k).bef)) := ⟨B, fun j hj => hf j (by omega)⟩
          refine .inr ⟨k, rfl, hk, h1.2.1, h1.2.2, rfl, ?_, hl⟩
          rw [withP_eq hk] at W ⊢
          refine put_OK h (List.getElem?_eq_getElem hk) h1.2.2 rfl rfl rfl (fun u hu => ?_) W
          rcases hu with hu | hu
          · exact .inr (.inl hu)
          · rcases List.mem_cons.1 hu with hu | hu
            · exact .inl hu
            · rw [thAt_eq hk] at hu; exact .inr (.inr hu)
        · exact .inl ⟨rfl, by simp⟩

/-- A deed keeps the laws; a deed that is refused changes nothing. -/
theorem doOf_OK {L : List Th} (h : OK L) (hpos : 0 < L.length) (d : Deed) : OK (doOf L d).1 ∧ 0 < (doOf L d).1.length ∧ ((doOf L d).2.2 ≠ 0 → (doOf L d).1 = L) := by
  unfold doOf
  split
  · unfold classOf
    split
    · exact ⟨h, hpos, fun _ => rfl⟩
    · rename_i hk
      split
      · exact ⟨h, hpos, fun _ => rfl⟩
      · have h1 : val L d.a = true ∧ (thAt L d.a).kind = 0 := by simpa using hk
        have hv : 0 ≤ d.a ∧ d.a < L.length := by simpa [val] using h1.1
        exact ⟨(add_OK h hpos (by omega) (fun _ => ⟨hv.2, by rw [h1.2]; decide⟩) (fun e => absurd e (by decide))).1, by simp, fun e => absurd rfl e⟩
  · split
    · unfold moduleOf
      split
      · exact ⟨h, hpos, fun _ => rfl⟩
      · split
        · exact ⟨h, hpos, fun _ => rfl⟩
        · exact ⟨(add_OK h hpos (by omega) (fun e => by omega) (fun _ => by decide)).1, by simp, fun e => absurd rfl e⟩
    · split
      · rcases putI_cases h d.a d.b with ⟨e1, e2⟩ | ⟨k, _, _, _, _, e, h2, hl⟩
        · simp only [e1]; exact ⟨h, hpos, fun _ => trivial⟩
        · simp only [e]; exact ⟨h2, by omega, fun e => absurd rfl e⟩
      · split
        · rcases putP_cases h d.a d.b with ⟨e1, e2⟩ | ⟨k, _, _, _, _, e, h2, hl⟩
          · simp only [e1]; exact ⟨h, hpos, fun _ => trivial⟩
          · simp only [e]; exact ⟨h2, by omega, fun e => absurd rfl e⟩
        · split
          · unfold singletonOf
            split
            · exact ⟨h, hpos, fun _ => rfl⟩
            · rename_i hbad
              split
              · split
                · exact ⟨h, hpos, fun _ => rfl⟩
                · exact ⟨h, hpos, fun _ => rfl⟩
              · split
                · exact ⟨h, hpos, fun _ => rfl⟩
                · have hk : (val L d.a && decide ((thAt L d.a).kind = 0)) = true := by
                    cases e : (val L d.a && decide ((thAt L d.a).kind = 0)) with
                    | true => rfl
                    | false => exact absurd (.inl e) hbad
                  have h1 : val L d.a = true ∧ (thAt L d.a).kind = 0 := by simpa using hk
                  have hv : 0 ≤ d.a ∧ d.a < L.length := by simpa [val] using h1.1
                  exact ⟨(add_OK h hpos (by omega) (fun _ => ⟨hv.2, by rw [h1.2]; decide⟩) (fun e => absurd e (by decide))).1, by simp, fun e => absurd rfl e⟩
          · split
            · unfold ownOf
              split
              · exact ⟨h, hpos, fun _ => rfl⟩
              · rename_i hno
                split
                · exact ⟨h, hpos, fun _ => rfl⟩
                · have hv : val L d.a = true := by
                    cases e : val L d.a with
                    | true => rfl
                    | false => exact absurd (.inl e) hno
                  obtain ⟨k, hk, hkl⟩ := val_nat hv
                  generalize d.a = q at *
                  subst hk
                  have hrl := rk_le h.wf k
                  obtain ⟨m1, _⟩ := mkF_OK 1001 h hpos hkl (by omega) (by omega)
                  exact ⟨m1, by have := mkF_len 1001 L k; simp only; omega, fun e => absurd rfl e⟩
            · exact ⟨h, hpos, fun _ => rfl⟩
end Go.Proofs.Ytahgopdamgagkaa

/- The law's own functions. -/
namespace Go.Proofs.Ytahgopdamgagkaa
set_option linter.all false
open Go.Vc Go.Proofs
set_option linter.unusedSimpArgs false
set_option linter.unusedVariables false
set_option maxRecDepth 100000
set_option maxHeartbeats 4000000
attribute [local irreducible] CallW EqK

def dDeed (d : Deed) : D := .agg (.cons (.val (.int .i64 d.op)) (.cons (.val (.int .i64 d.a)) (.cons (.val (.int .i64 d.b)) .nil)))
def dDeeds (l : List Deed) : D := sq (l.map dDeed)
def avDeed (d : Deed) : AV := .agg (.cons (avInt d.op) (.cons (avInt d.a) (.cons (avInt d.b) .nil)))
@[simp] theorem dDeeds_len (l : List Deed) : (dDeeds l).len = l.length := by simp [dDeeds]
theorem dDeeds_nth {l : List Deed} {i : Nat} (h : i < l.length) : (dDeeds l).nth i = .agg (.cons (.val (.int .i64 l[i].op)) (.cons (.val (.int .i64 l[i].a)) (.cons (.val (.int .i64 l[i].b)) .nil))) := by
  rw [dDeeds, sq_nth_lt (by simpa using h)]; simp; rfl

/-- The part of a number. -/
def partOf (x : Int) (n : Int) : Int := (IntKind.u64.wrap x).tmod n
theorem u64_nonneg (x : Int) : 0 ≤ IntKind.u64.wrap x := by simp only [IntKind.wrap, IntKind.bits, IntKind.signed]; simp; omega
theorem partOf_nonneg (x : Int) {n : Int} : 0 ≤ partOf x n := Int.tmod_nonneg _ (u64_nonneg x)
theorem partOf_lt (x : Int) {n : Int} (h : 0 < n) : partOf x n < n := Int.tmod_lt_of_pos _ h
def smallOf (d : Deed) : Deed := ⟨partOf d.op 6, partOf d.a 14, partOf d.b 14⟩

/- cabochon/cabochonlaw18.do -/
theorem do_ok {L : List Th} (h : OK L) (d : Deed) : Meets Try.prog 16 [dL L] (.cons (.ptr 0 [.d]) (.cons (avDeed d) .nil))
    fun av X κ => av = two (doOf L d).2 ∧ X = [dL (doOf L d).1] ∧ κ = [(0, [.d])] := by
  have hl := h.len
  unfold avDeed
  refine Meets.of_vs tabOk Try.func16 (body := ?_) ?_ (by kernel_rfl) Try.ntmps16 (rs := [.tmp 4, .tmp 5]) (by kernel_rfl) rfl (by simp [AV.len]) (by simp only [envOf]; exact rfl) ?_
  rotate_left
  · rfl
  intro w0 I0 F0 hF
  repeat first
    | refine VS.seq ?_
    | refine VS.block ?_
    | (refine VS.keepAt 0 [0, 1] ?_; generalize hK : VS _ _ _ = KK; (try simp); (try subst hK); refine VS.region tabOk (id := 0) [] (by kernel_rfl) ?_; generalize hK : VS _ _ _ = KK; simp (maxSteps := 1000000) [hF]; (try subst hK); try (refine VS.keep [0, 3] ?_; generalize hK : VS _ _ _ = KK; simp; (try subst hK)))
    | (refine VS.keepAt 1 [0, 3] ?_; generalize hK : VS _ _ _ = KK; (try simp); (try subst hK); refine VS.region tabOk (id := 1) [] (by kernel_rfl) ?_; generalize hK : VS _ _ _ = KK; simp (maxSteps := 1000000) [hF]; (try subst hK); try (refine VS.keep [0, 3, 7] ?_; generalize hK : VS _ _ _ = KK; simp; (try subst hK)))
    | (refine VS.keepAt 2 [0, 3, 7] ?_; generalize hK : VS _ _ _ = KK; (try simp); (try subst hK); refine VS.region tabOk (id := 2) [] (by kernel_rfl) ?_; generalize hK : VS _ _ _ = KK; simp (maxSteps := 1000000) [hF]; (try subst hK); try (refine VS.keep [0, 3, 7, 8] ?_; generalize hK : VS _ _ _ = KK; simp; (try subst hK)))
    | (refine VS.cond ?_; generalize hK1 : VS _ _ _ = KK1; generalize hK2 : VS _ _ _ = KK2; simp (maxSteps := 1000000) [hF]; (try subst hK1); (try subst hK2))
  refine ⟨fun h0 => ?_, fun h0 => ?_⟩
  · repeat first
      | refine VS.seq ?_
      | (refine VS.keepAt 3 [0, 3] ?_; generalize hK : VS _ _ _ = KK; (try simp); (try subst hK); refine VS.region tabOk (id := 3) [] (by kernel_rfl) ?_; generalize hK : VS _ _ _ = KK; simp (maxSteps := 1000000) [hF]; (try subst hK); try (refine VS.keep [4, 5] ?_; generalize hK : VS _ _ _ = KK; simp; (try subst hK)))
    refine (class_ok L hl d.a).call [(0, [])] (by simp) (by simp (maxSteps := 1000000) [hF, dL]) (by simp (maxSteps := 1000000) [hF, dL]) (by simp (maxSteps := 1000000) [hF, dL]) (by simp) ?_
    rintro av X κ ⟨rfl, rfl, rfl⟩
    generalize hK : VS _ _ _ = KK; simp (maxSteps := 1000000) [hF, dL]; (try subst hK)
    try refine VS.ret ?_
    repeat first | refine blockN_ret ?_ | refine loopN_ret ?_
    refine endK.of [4, 5] [0] [(0, [.d])] (by simp [hF]) (by simp [covers, mpre]) ?_
    simp [hF, retK, dL, doOf, h0]
  repeat first
    | refine VS.seq ?_
    | (refine VS.keepAt 4 [0, 3, 7] ?_; generalize hK : VS _ _ _ = KK; (try simp); (try subst hK); refine VS.region tabOk (id := 4) [] (by kernel_rfl) ?_; generalize hK : VS _ _ _ = KK; simp (maxSteps := 1000000) [hF]; (try subst hK); try (refine VS.keep [0, 3, 7, 16] ?_; generalize hK : VS _ _ _ = KK; simp; (try subst hK)))
    | (refine VS.cond ?_; generalize hK1 : VS _ _ _ = KK1; generalize hK2 : VS _ _ _ = KK2; simp (maxSteps := 1000000) [hF]; (try subst hK1); (try subst hK2))
  refine ⟨fun h1 => ?_, fun h1 => ?_⟩
  · repeat first
      | refine VS.seq ?_
      | (refine VS.keepAt 5 [0] ?_; generalize hK : VS _ _ _ = KK; (try simp); (try subst hK); refine VS.region tabOk (id := 5) [] (by kernel_rfl) ?_; generalize hK : VS _ _ _ = KK; simp (maxSteps := 1000000) [hF]; (try subst hK); try (refine VS.keep [4, 5] ?_; generalize hK : VS _ _ _ = KK; simp; (try subst hK)))
    refine (module_ok L hl).call [(0, [])] (by simp) (by simp (maxSteps := 1000000) [hF, dL]) (by simp (maxSteps := 1000000) [hF, dL]) (by simp (maxSteps := 1000000) [hF, dL]) (by simp) ?_
    rintro av X κ ⟨rfl, rfl, rfl⟩
    generalize hK : VS _ _ _ = KK; simp (maxSteps := 1000000) [hF, dL]; (try subst hK)
    try refine VS.ret ?_
    repeat first | refine blockN_ret ?_ | refine loopN_ret ?_
    refine endK.of [4, 5] [0] [(0, [.d])] (by simp [hF]) (by simp [covers, mpre]) ?_
    simp [hF, retK, dL, doOf, h0, h1]
  repeat first
    | refine VS.seq ?_
    | (refine VS.keepAt 6 [0, 3, 7] ?_; generalize hK : VS _ _ _ = KK; (try simp); (try subst hK); refine VS.region tabOk (id := 6) [] (by kernel_rfl) ?_; generalize hK : VS _ _ _ = KK; simp (maxSteps := 1000000) [hF]; (try subst hK); try (refine VS.keep [0, 3, 7, 22] ?_; generalize hK : VS _ _ _ = KK; simp; (try subst hK)))
    | (refine VS.cond ?_; generalize hK1 : VS _ _ _ = KK1; generalize hK2 : VS _ _ _ = KK2; simp (maxSteps := 1000000) [hF]; (try subst hK1); (try subst hK2))
  refine ⟨fun h2 => ?_, fun h2 => ?_⟩
  · repeat first
      | refine VS.seq ?_
      | (refine VS.keepAt 7 [0, 3] ?_; generalize hK : VS _ _ _ = KK; (try simp); (try subst hK); refine VS.region tabOk (id := 7) [] (by kernel_rfl) ?_; generalize hK : VS _ _ _ = KK; simp (maxSteps := 1000000) [hF]; (try subst hK); try (refine VS.keep [4, 5] ?_; generalize hK : VS _ _ _ = KK; simp; (try subst hK)))
    refine (include_ok h.wf d.a d.b (fun t ht hl hv hk hd _ hh => by subst_vars; rw [ht] at hd hh ⊢; exact baseI h d.b t hl hv hk hd hh)).call [(0, [])] (by simp) (by simp (maxSteps := 1000000) [hF, dL]) (by simp (maxSteps := 1000000) [hF, dL]) (by simp (maxSteps := 1000000) [hF, dL]) (by simp) ?_
    rintro av X κ ⟨rfl, rfl, rfl⟩
    generalize hK : VS _ _ _ = KK; simp (maxSteps := 1000000) [hF, dL]; (try subst hK)
    try refine VS.ret ?_
    repeat first | refine blockN_ret ?_ | refine loopN_ret ?_
    refine endK.of [4, 5] [0] [(0, [.d])] (by simp [hF]) (by simp [covers, mpre]) ?_
    simp [hF, retK, dL, doOf, h0, h1, h2]
  repeat first
    | refine VS.seq ?_
    | (refine VS.keepAt 8 [0, 3, 7] ?_; generalize hK : VS _ _ _ = KK; (try simp); (try subst hK); refine VS.region tabOk (id := 8) [] (by kernel_rfl) ?_; generalize hK : VS _ _ _ = KK; simp (maxSteps := 1000000) [hF]; (try subst hK); try (refine VS.keep [0, 3, 7, 30] ?_; generalize hK : VS _ _ _ = KK; simp; (try subst hK)))
    | (refine VS.cond ?_; generalize hK1 : VS _ _ _ = KK1; generalize hK2 : VS _ _ _ = KK2; simp (maxSteps := 1000000) [hF]; (try subst hK1); (try subst hK2))
  refine ⟨fun h3 => ?_, fun h3 => ?_⟩
  · repeat first
      | refine VS.seq ?_
      | (refine VS.keepAt 9 [0, 3] ?_; generalize hK : VS _ _ _ = KK; (try simp); (try subst hK); refine VS.region tabOk (id := 9) [] (by kernel_rfl) ?_; generalize hK : VS _ _ _ = KK; simp (maxSteps := 1000000) [hF]; (try subst hK); try (refine VS.keep [4, 5] ?_; generalize hK : VS _ _ _ = KK; simp; (try subst hK)))
    refine (prepend_ok h.wf d.a d.b (fun t ht hl hv hk hd _ hh => by subst_vars; rw [ht] at hd hh ⊢; exact baseP h d.b t hl hv hk hd hh)).call [(0, [])] (by simp) (by simp (maxSteps := 1000000) [hF, dL]) (by simp (maxSteps := 1000000) [hF, dL]) (by simp (maxSteps := 1000000) [hF, dL]) (by simp) ?_
    rintro av X κ ⟨rfl, rfl, rfl⟩
    generalize hK : VS _ _ _ = KK; simp (maxSteps := 1000000) [hF, dL]; (try subst hK)
    try refine VS.ret ?_
    repeat first | refine blockN_ret ?_ | refine loopN_ret ?_
    refine endK.of [4, 5] [0] [(0, [.d])] (by simp [hF]) (by simp [covers, mpre]) ?_
    simp [hF, retK, dL, doOf, h0, h1, h2, h3]
  repeat first
    | refine VS.seq ?_
    | (refine VS.keepAt 10 [0, 3, 7] ?_; generalize hK : VS _ _ _ = KK; (try simp); (try subst hK); refine VS.region tabOk (id := 10) [] (by kernel_rfl) ?_; generalize hK : VS _ _ _ = KK; simp (maxSteps := 1000000) [hF]; (try subst hK); try (refine VS.keep [0, 3, 7, 38] ?_; generalize hK : VS _ _ _ = KK; simp; (try subst hK)))
    | (refine VS.cond ?_; generalize hK1 : VS _ _ _ = KK1; generalize hK2 : VS _ _ _ = KK2; simp (maxSteps := 1000000) [hF]; (try subst hK1); (try subst hK2))
  refine ⟨fun h4 => ?_, fun h4 => ?_⟩
  · repeat first
      | refine VS.seq ?_
      | (refine VS.keepAt 11 [0, 3] ?_; generalize hK : VS _ _ _ = KK; (try simp); (try subst hK); refine VS.region tabOk (id := 11) [] (by kernel_rfl) ?_; generalize hK : VS _ _ _ = KK; simp (maxSteps := 1000000) [hF]; (try subst hK); try (refine VS.keep [4, 5] ?_; generalize hK : VS _ _ _ = KK; simp; (try subst hK)))
    refine (singleton_ok L hl d.a d.b).call [(0, [])] (by simp) (by simp (maxSteps := 1000000) [hF, dL]) (by simp (maxSteps := 1000000) [hF, dL]) (by simp (maxSteps := 1000000) [hF, dL]) (by simp) ?_
    rintro av X κ ⟨rfl, rfl, rfl⟩
    generalize hK : VS _ _ _ = KK; simp (maxSteps := 1000000) [hF, dL]; (try subst hK)
    try refine VS.ret ?_
    repeat first | refine blockN_ret ?_ | refine loopN_ret ?_
    refine endK.of [4, 5] [0] [(0, [.d])] (by simp [hF]) (by simp [covers, mpre]) ?_
    simp [hF, retK, dL, doOf, h0, h1, h2, h3, h4]
  repeat first
    | refine VS.seq ?_
    | (refine VS.keepAt 12 [0, 3, 7] ?_; generalize hK : VS _ _ _ = KK; (try simp); (try subst hK); refine VS.region tabOk (id := 12) [] (by kernel_rfl) ?_; generalize hK : VS _ _ _ = KK; simp (maxSteps := 1000000) [hF]; (try subst hK); try (refine VS.keep [0, 3, 48] ?_; generalize hK : VS _ _ _ = KK; simp; (try subst hK)))
    | (refine VS.cond ?_; generalize hK1 : VS _ _ _ = KK1; generalize hK2 : VS _ _ _ = KK2; simp (maxSteps := 1000000) [hF]; (try subst hK1); (try subst hK2))
  refine ⟨fun h5 => ?_, fun h5 => ?_⟩
  · repeat first
      | refine VS.seq ?_
      | (refine VS.keepAt 13 [0, 3] ?_; generalize hK : VS _ _ _ = KK; (try simp); (try subst hK); refine VS.region tabOk (id := 13) [] (by kernel_rfl) ?_; generalize hK : VS _ _ _ = KK; simp (maxSteps := 1000000) [hF]; (try subst hK); try (refine VS.keep [4, 5] ?_; generalize hK : VS _ _ _ = KK; simp; (try subst hK)))
    refine (own_ok h.ups (rk_le h.wf) d.a).call [(0, [])] (by simp) (by simp (maxSteps := 1000000) [hF, dL]) (by simp (maxSteps := 1000000) [hF, dL]) (by simp (maxSteps := 1000000) [hF, dL]) (by simp) ?_
    rintro av X κ ⟨rfl, rfl, rfl⟩
    generalize hK : VS _ _ _ = KK; simp (maxSteps := 1000000) [hF, dL]; (try subst hK)
    try refine VS.ret ?_
    repeat first | refine blockN_ret ?_ | refine loopN_ret ?_
    refine endK.of [4, 5] [0] [(0, [.d])] (by simp [hF]) (by simp [covers, mpre]) ?_
    simp [hF, retK, dL, doOf, h0, h1, h2, h3, h4, h5]
  repeat first
    | refine VS.seq ?_
    | refine VS.skip ?_
    | refine VS.nil ?_
    | (refine VS.keepAt 14 [] ?_; generalize hK : VS _ _ _ = KK; (try simp); (try subst hK); refine VS.region tabOk (id := 14) [] (by kernel_rfl) ?_; generalize hK : VS _ _ _ = KK; simp (maxSteps := 1000000) [hF]; (try subst hK); try (refine VS.keep [4, 5] ?_; generalize hK : VS _ _ _ = KK; simp; (try subst hK)))
  try refine VS.ret ?_
  repeat first | refine blockN_ret ?_ | refine loopN_ret ?_
  refine endK.of [4, 5] [0] [(0, [.d])] (by simp [hF]) (by simp [covers, mpre]) ?_
  simp [hF, retK, dL, doOf, h0, h1, h2, h3, h4, h5]

/- cabochon/cabochonlaw18.small -/
theorem small_ok (d : Deed) : Meets Try.prog 24 [] (.cons (avDeed d) .nil)
    fun av X κ => av = avDeed (smallOf d) ∧ X = [.box true () (dDeed (smallOf d))] ∧ κ = [] := by
  unfold avDeed
  refine Meets.of_vs tabOk Try.func24 (body := ?_) ?_ (by kernel_rfl) Try.ntmps24 (rs := [.cell 2 34]) (by kernel_rfl) rfl (by simp [AV.len]) (by simp only [envOf]; exact rfl) ?_
  rotate_left
  · rfl
  intro w0 I0 F0 hF
  have h1 := partOf_nonneg d.op (n := 6)
  have h2 := partOf_lt d.op (n := 6) (by omega)
  have h3 := partOf_nonneg d.a (n := 14)
  have h4 := partOf_lt d.a (n := 14) (by omega)
  have h5 := partOf_nonneg d.b (n := 14)
  have h6 := partOf_lt d.b (n := 14) (by omega)
  have w1 : IntKind.i64.wrap (partOf d.op 6) = partOf d.op 6 := IntWalk.i64_in _ (by omega)
  have w2 : IntKind.i64.wrap (partOf d.a 14) = partOf d.a 14 := IntWalk.i64_in _ (by omega)
  have w3 : IntKind.i64.wrap (partOf d.b 14) = partOf d.b 14 := IntWalk.i64_in _ (by omega)
  have w4 : IntKind.u64.wrap (partOf d.op 6) = partOf d.op 6 := by simp only [IntKind.wrap, IntKind.bits, IntKind.signed]; simp; omega
  have w5 : IntKind.u64.wrap (partOf d.a 14) = partOf d.a 14 := by simp only [IntKind.wrap, IntKind.bits, IntKind.signed]; simp; omega
  have w6 : IntKind.u64.wrap (partOf d.b 14) = partOf d.b 14 := by simp only [IntKind.wrap, IntKind.bits, IntKind.signed]; simp; omega
  simp only [partOf] at w1 w2 w3 w4 w5 w6
  have w14 : IntKind.u64.wrap 14 = 14 := by decide
  have w7 : IntKind.u64.wrap 6 = 6 := by decide
  repeat first
    | refine VS.seq ?_
    | (refine VS.keepAt 0 [0] ?_; generalize hK : VS _ _ _ = KK; (try simp); (try subst hK); refine VS.region tabOk (id := 0) [] (by kernel_rfl) ?_; generalize hK : VS _ _ _ = KK; simp (maxSteps := 1000000) [hF, w1, w2, w3, w4, w5, w6, w14, w7]; (try subst hK); try (refine VS.keep [1, 2] ?_; generalize hK : VS _ _ _ = KK; simp; (try subst hK)))
    | (refine VS.keepAt 1 [1, 2] ?_; generalize hK : VS _ _ _ = KK; (try simp); (try subst hK); refine VS.region tabOk (id := 1) [] (by kernel_rfl) ?_; generalize hK : VS _ _ _ = KK; simp (maxSteps := 1000000) [hF, w1, w2, w3, w4, w5, w6, w14, w7]; (try subst hK); try (refine VS.keep [2] ?_; generalize hK : VS _ _ _ = KK; simp; (try subst hK)))
  try refine VS.ret ?_
  repeat first | refine blockN_ret ?_ | refine loopN_ret ?_
  refine endK.of [2] [1] [] (by simp [hF]) (by simp [covers, mpre]) ?_
  simp [hF, retK, smallOf, partOf, dDeed, avDeed]
end Go.Proofs.Ytahgopdamgagkaa
