/- More plain facts, and what is not there. -/
import Derived.Test.YtahgopdamgagkaaK6
import Derived.Test.YtahgopdamgagkaaK5
import Derived.Test.YtahgopdamgagkaaRows
import Derived.Test.YtahgopdamgagkaaK7
import Derived.WalkKit
import Derived.ProofKit
import Derived.OpenShut
import Derived.ShutString
import Derived.ChangeOld
import Derived.Carry
namespace Go.Proofs.Ytahgopdamgagkaa
set_option linter.all false
open Go.Vc Go.Proofs
set_option linter.unusedSimpArgs false
set_option linter.unusedVariables false
set_option maxRecDepth 100000
set_option maxHeartbeats 4000000
attribute [local irreducible] CallW EqK

theorem part_nat (x : Int) : ∃ a : Nat, a < 14 ∧ (IntKind.u64.wrap x).tmod 14 = (a : Int) ∧ IntKind.u64.wrap (a : Int) = a ∧ IntKind.i64.wrap (a : Int) = a := by
  have h3 := partOf_nonneg x (n := 14)
  have h4 := partOf_lt x (n := 14) (by omega)
  refine ⟨(partOf x 14).toNat, by omega, ?_, ?_, ?_⟩
  · show partOf x 14 = _; omega
  · have : (((partOf x 14).toNat : Nat) : Int) = partOf x 14 := by omega
    rw [this]; simp only [IntKind.wrap, IntKind.bits, IntKind.signed]; simp; omega
  · exact IntWalk.i64_in _ (by omega)
theorem w14 : IntKind.u64.wrap 14 = 14 := by decide

/- (*cabochon/lineage.Lineage).Below -/
theorem Below_no {L : List Th} (hl : L.length ≤ 1000) (t : Int) (hv : val L t = false) : Meets Try.prog 27 [dL L] (.cons (.ptr 0 [.d]) (.cons (avInt t) .nil))
    fun av X κ => av = avTwo (.nils 1) 1 ∧ X = [dL L] ∧ κ = [] := by
  refine Meets.of_vs tabOk Try.func27 (body := ?_) ?_ (by kernel_rfl) Try.ntmps27 (rs := [.tmp 4, .tmp 5]) (by kernel_rfl) rfl (by simp [AV.len]) (by simp only [envOf]; exact rfl) ?_
  rotate_left
  · rfl
  intro w0 I0 F0 hF
  repeat first
    | refine VS.seq ?_
    | (refine VS.keepAt 0 [0, 1] ?_; generalize hK : VS _ _ _ = KK; (try simp); (try subst hK); refine VS.region tabOk (id := 0) [] (by kernel_rfl) ?_; generalize hK : VS _ _ _ = KK; simp (maxSteps := 1000000) [hF]; (try subst hK); try (refine VS.keep [0, 1] ?_; generalize hK : VS _ _ _ = KK; simp; (try subst hK)))
    | (refine VS.keepAt 1 [0, 1] ?_; generalize hK : VS _ _ _ = KK; (try simp); (try subst hK); refine VS.region tabOk (id := 1) [] (by kernel_rfl) ?_; generalize hK : VS _ _ _ = KK; simp (maxSteps := 1000000) [hF]; (try subst hK); try (refine VS.keep [0, 1, 14] ?_; generalize hK : VS _ _ _ = KK; simp; (try subst hK)))
  refine (is_ok L hl t).call [(0, [])] (by simp) (by simp (maxSteps := 1000000) [hF, dL, hv]) (by simp (maxSteps := 1000000) [hF, dL, hv]) (by simp (maxSteps := 1000000) [hF, dL, hv]) (by simp) ?_
  rintro av X κ ⟨rfl, rfl, rfl⟩
  generalize hK : VS _ _ _ = KK; simp (maxSteps := 1000000) [hF, dL, hv]; (try subst hK)
  repeat first
    | refine VS.seq ?_
    | (refine VS.keepAt 2 [] ?_; generalize hK : VS _ _ _ = KK; (try simp); (try subst hK); refine VS.region tabOk (id := 2) [] (by kernel_rfl) ?_; generalize hK : VS _ _ _ = KK; simp (maxSteps := 1000000) [hF]; (try subst hK); try (refine VS.keep [4, 5] ?_; generalize hK : VS _ _ _ = KK; simp; (try subst hK)))
    | (refine VS.cond ?_; generalize hK1 : VS _ _ _ = KK1; generalize hK2 : VS _ _ _ = KK2; simp (maxSteps := 1000000) [hF]; (try subst hK1); (try subst hK2))
  try refine VS.ret ?_
  repeat first | refine blockN_ret ?_ | refine loopN_ret ?_
  refine endK.of [4, 5] [0] [] (by simp [hF]) (by simp [covers, mpre]) ?_
  simp [hF, retK, dL]

/- (*cabochon/lineage.Lineage).Is -/
theorem Is_no {L : List Th} (hl : L.length ≤ 1000) (t u : Int) (hv : val L t = false) : Meets Try.prog 28 [dL L] (.cons (.ptr 0 [.d]) (.cons (avInt t) (.cons (avInt u) .nil)))
    fun av X κ => av = avTwo (avBool false) 1 ∧ X = [dL L] ∧ κ = [] := by
  refine Meets.of_vs tabOk Try.func28 (body := ?_) ?_ (by kernel_rfl) Try.ntmps28 (rs := [.tmp 6, .tmp 7]) (by kernel_rfl) rfl (by simp [AV.len]) (by simp only [envOf]; exact rfl) ?_
  rotate_left
  · rfl
  intro w0 I0 F0 hF
  repeat first
    | refine VS.seq ?_
    | (refine VS.keepAt 0 [0, 1, 2] ?_; generalize hK : VS _ _ _ = KK; (try simp); (try subst hK); refine VS.region tabOk (id := 0) [] (by kernel_rfl) ?_; generalize hK : VS _ _ _ = KK; simp (maxSteps := 1000000) [hF]; (try subst hK); try (refine VS.keep [0, 1, 2] ?_; generalize hK : VS _ _ _ = KK; simp; (try subst hK)))
    | (refine VS.keepAt 1 [0, 1, 2] ?_; generalize hK : VS _ _ _ = KK; (try simp); (try subst hK); refine VS.region tabOk (id := 1) [(4, 14)] (by kernel_rfl) ?_; generalize hK : VS _ _ _ = KK; simp (maxSteps := 1000000) [hF]; (try subst hK); try (refine VS.keep [0, 1, 2, 19] ?_; generalize hK : VS _ _ _ = KK; simp; (try subst hK)))
  refine (is_ok L hl t).call [(0, [])] (by simp) (by simp (maxSteps := 1000000) [hF, dL, hv]) (by simp (maxSteps := 1000000) [hF, dL, hv]) (by simp (maxSteps := 1000000) [hF, dL, hv]) (by simp) ?_
  rintro av X κ ⟨rfl, rfl, rfl⟩
  generalize hK : VS _ _ _ = KK; simp (maxSteps := 1000000) [hF, dL, hv]; (try subst hK)
  repeat first
    | refine VS.seq ?_
    | (refine VS.keepAt 2 [] ?_; generalize hK : VS _ _ _ = KK; (try simp); (try subst hK); refine VS.region tabOk (id := 2) [] (by kernel_rfl) ?_; generalize hK : VS _ _ _ = KK; simp (maxSteps := 1000000) [hF]; (try subst hK); try (refine VS.keep [6, 7] ?_; generalize hK : VS _ _ _ = KK; simp; (try subst hK)))
    | (refine VS.cond ?_; generalize hK1 : VS _ _ _ = KK1; generalize hK2 : VS _ _ _ = KK2; simp (maxSteps := 1000000) [hF]; (try subst hK1); (try subst hK2))
  try refine VS.ret ?_
  repeat first | refine blockN_ret ?_ | refine loopN_ret ?_
  refine endK.of [6, 7] [0] [] (by simp [hF]) (by simp [covers, mpre]) ?_
  simp [hF, retK, dL]

theorem reach_mono {L L' : List Th} (h : ∀ (t : Nat) (x : Th), L[t]? = some x → ∃ x', L'[t]? = some x' ∧ ∀ u, edge x u → edge x' u) {t v : Int} (r : Reach L t v) : Reach L' t v := by
  induction r with
  | refl t => exact .refl t
  | step hx he _ ih =>
    obtain ⟨x', h1, h2⟩ := h _ _ hx
    exact .step h1 (h2 _ he) ih
theorem reach_trans {L : List Th} {t u v : Int} (r : Reach L t u) (s : Reach L u v) : Reach L t v := by
  induction r with
  | refl t => exact s
  | step hx he _ ih => exact .step hx he (ih s)
/-- What is included later stands in the order of all that have the module. -/
theorem live_in {L : List Th} (W : WFL L) {a : Nat} {m : Int} (ha : a < L.length) (W2 : WFL (withI L a (m :: (thAt L a).ins))) {k : Nat} (hk : k < L.length) (h : (a : Int) ∈ ordL L k) :
    m ∈ ordL (withI L a (m :: (thAt L a).ins)) k := by
  have hl : (withI L a (m :: (thAt L a).ins)).length = L.length := by rw [withI_eq ha]; simp
  have hr := (mem_reach W hk _).1 h
  rw [mem_reach W2 (by omega)]
  have hth := thAt_eq ha
  rw [hth] at *
  rw [withI_eq ha] at *
  have hself : (L.set a { L[a] with ins := m :: L[a].ins })[a]? = some { L[a] with ins := m :: L[a].ins } := List.getElem?_set_self ha
  refine reach_trans (reach_mono (fun t x hx => ?_) hr) (.step hself (.inr (by simp [parents])) (.refl m))
  by_cases e : a = t
  · subst e
    rw [List.getElem?_eq_getElem ha] at hx; cases hx
    refine ⟨_, hself, fun u hu => ?_⟩
    rcases hu with hu | hu
    · exact .inl hu
    · refine .inr ?_
      simp only [parents, List.cons_append, List.mem_cons] at hu ⊢
      exact .inr hu
  · exact ⟨x, by rw [List.getElem?_set_ne e]; exact hx, fun _ h => h⟩
theorem belowTo_mem {L : List Th} {a : Int} {n i : Nat} (h : i < (belowTo L a n).length) : ∃ k : Nat, (belowTo L a n)[i] = k ∧ k < n ∧ a ∈ ordL L k := by
  have hm := List.getElem_mem h
  have : ∀ v ∈ belowTo L a n, ∃ k : Nat, v = k ∧ k < n ∧ a ∈ ordL L k := fun v hv => by
    unfold belowTo at hv
    simp only [List.mem_map, List.mem_filter, List.mem_range] at hv
    obtain ⟨k, ⟨h1, h2⟩, rfl⟩ := hv
    exact ⟨k, rfl, h1, hasN_iff.1 h2⟩
  exact this _ hm
end Go.Proofs.Ytahgopdamgagkaa

/- A lineage that is nil. -/
namespace Go.Proofs.Ytahgopdamgagkaa
set_option linter.all false
open Go.Vc Go.Proofs
set_option linter.unusedSimpArgs false
set_option maxRecDepth 100000
set_option maxHeartbeats 4000000
attribute [local irreducible] CallW EqK

abbrev avNil : AV := .val (.pointer none)

/- (*cabochon/lineage.Lineage).is -/
theorem is_nil (t : Int) : Meets Try.prog 31 [] (.cons avNil (.cons (avInt t) .nil)) fun av X κ => av = avBool false ∧ X = [] ∧ κ = [] := by
  refine Meets.of_vs tabOk Try.func31 (body := ?_) ?_ (by kernel_rfl) Try.ntmps31 (rs := [.tmp 4]) (by kernel_rfl) rfl (by simp [AV.len]) (by simp only [envOf]; exact rfl) ?_
  rotate_left
  · rfl
  intro w0 I0 F0 hF
  repeat first
    | refine VS.seq ?_
    | (refine VS.keepAt 0 [0, 1] ?_; generalize hK : VS _ _ _ = KK; (try simp); (try subst hK); refine VS.region tabOk (id := 0) [] (by kernel_rfl) ?_; generalize hK : VS _ _ _ = KK; simp (maxSteps := 1000000) [hF]; (try subst hK); try (refine VS.keep [0, 1] ?_; generalize hK : VS _ _ _ = KK; simp; (try subst hK)))
    | (refine VS.keepAt 1 [0, 1] ?_; generalize hK : VS _ _ _ = KK; (try simp); (try subst hK); refine VS.region tabOk (id := 1) [(2, 7), (6, 11)] (by kernel_rfl) ?_; generalize hK : VS _ _ _ = KK; simp (maxSteps := 1000000) [hF]; (try subst hK); try (refine VS.keep [4] ?_; generalize hK : VS _ _ _ = KK; simp; (try subst hK)))
  try refine VS.ret ?_
  repeat first | refine blockN_ret ?_ | refine loopN_ret ?_
  refine endK.of [4] [] [] (by simp [hF]) (by simp [covers, mpre]) ?_
  simp [hF, retK]

/- (*cabochon/lineage.Lineage).kind -/
theorem kind_nil (t k : Int) : Meets Try.prog 48 [] (.cons avNil (.cons (avInt t) (.cons (avInt k) .nil))) fun av X κ => av = avBool false ∧ X = [] ∧ κ = [] := by
  refine Meets.of_vs tabOk Try.func48 (body := ?_) ?_ (by kernel_rfl) Try.ntmps48 (rs := [.tmp 6]) (by kernel_rfl) rfl (by simp [AV.len]) (by simp only [envOf]; exact rfl) ?_
  rotate_left
  · rfl
  intro w0 I0 F0 hF
  repeat first
    | refine VS.seq ?_
    | (refine VS.keepAt 0 [0, 1, 2] ?_; generalize hK : VS _ _ _ = KK; (try simp); (try subst hK); refine VS.region tabOk (id := 0) [] (by kernel_rfl) ?_; generalize hK : VS _ _ _ = KK; simp (maxSteps := 1000000) [hF]; (try subst hK); try (refine VS.keep [0, 1, 2] ?_; generalize hK : VS _ _ _ = KK; simp; (try subst hK)))
    | (refine VS.keepAt 1 [0, 1, 2] ?_; generalize hK : VS _ _ _ = KK; (try simp); (try subst hK); refine VS.region tabOk (id := 1) [(3, 10)] (by kernel_rfl) ?_; generalize hK : VS _ _ _ = KK; simp (maxSteps := 1000000) [hF]; (try subst hK); try (refine VS.keep [6] ?_; generalize hK : VS _ _ _ = KK; simp; (try subst hK)))
  refine (is_nil t).call [] (by simp) (by simp (maxSteps := 1000000) [hF]) (by simp (maxSteps := 1000000) [hF]) (by simp (maxSteps := 1000000) [hF]) (by simp) ?_
  rintro av X κ ⟨rfl, rfl, rfl⟩
  generalize hK : VS _ _ _ = KK; simp (maxSteps := 1000000) [hF]; (try subst hK)
  try refine VS.ret ?_
  repeat first | refine blockN_ret ?_ | refine loopN_ret ?_
  refine endK.of [6] [] [] (by simp [hF]) (by simp [covers, mpre]) ?_
  simp [hF, retK]

/- (*cabochon/lineage.Lineage).Len -/
theorem len_nil : Meets Try.prog 12 [] (.cons avNil .nil) fun av X κ => av = avInt 0 ∧ X = [] ∧ κ = [] := by
  refine Meets.of_vs tabOk Try.func12 (body := ?_) ?_ (by kernel_rfl) Try.ntmps12 (rs := [.tmp 2]) (by kernel_rfl) rfl (by simp [AV.len]) (by simp only [envOf]; exact rfl) ?_
  rotate_left
  · rfl
  intro w0 I0 F0 hF
  repeat first
    | refine VS.seq ?_
    | (refine VS.keepAt 0 [0] ?_; generalize hK : VS _ _ _ = KK; (try simp); (try subst hK); refine VS.region tabOk (id := 0) [] (by kernel_rfl) ?_; generalize hK : VS _ _ _ = KK; simp (maxSteps := 1000000) [hF]; (try subst hK); try (refine VS.keep [0] ?_; generalize hK : VS _ _ _ = KK; simp; (try subst hK)))
    | (refine VS.keepAt 1 [0] ?_; generalize hK : VS _ _ _ = KK; (try simp); (try subst hK); refine VS.region tabOk (id := 1) [] (by kernel_rfl) ?_; generalize hK : VS _ _ _ = KK; simp (maxSteps := 1000000) [hF]; (try subst hK); try (refine VS.keep [0, 4] ?_; generalize hK : VS _ _ _ = KK; simp; (try subst hK)))
    | (refine VS.keepAt 2 [] ?_; generalize hK : VS _ _ _ = KK; (try simp); (try subst hK); refine VS.region tabOk (id := 2) [] (by kernel_rfl) ?_; generalize hK : VS _ _ _ = KK; simp (maxSteps := 1000000) [hF]; (try subst hK); try (refine VS.keep [2] ?_; generalize hK : VS _ _ _ = KK; simp; (try subst hK)))
    | (refine VS.cond ?_; generalize hK1 : VS _ _ _ = KK1; generalize hK2 : VS _ _ _ = KK2; simp (maxSteps := 1000000) [hF]; (try subst hK1); (try subst hK2))
  try refine VS.ret ?_
  repeat first | refine blockN_ret ?_ | refine loopN_ret ?_
  refine endK.of [2] [] [] (by simp [hF]) (by simp [covers, mpre]) ?_
  simp [hF, retK]

/- (*cabochon/lineage.Lineage).Class -/
theorem class_nil (s : Int) : Meets Try.prog 34 [] (.cons avNil (.cons (avInt s) .nil)) fun av X κ => av = two (0, 1) ∧ X = [] ∧ κ = [] := by
  refine Meets.of_vs tabOk Try.func34 (body := ?_) ?_ (by kernel_rfl) Try.ntmps34 (rs := [.tmp 4, .tmp 5]) (by kernel_rfl) rfl (by simp [AV.len]) (by simp only [envOf]; exact rfl) ?_
  rotate_left
  · rfl
  intro w0 I0 F0 hF
  repeat first
    | refine VS.seq ?_
    | (refine VS.keepAt 0 [0, 1] ?_; generalize hK : VS _ _ _ = KK; (try simp); (try subst hK); refine VS.region tabOk (id := 0) [] (by kernel_rfl) ?_; generalize hK : VS _ _ _ = KK; simp (maxSteps := 1000000) [hF]; (try subst hK); try (refine VS.keep [0, 1] ?_; generalize hK : VS _ _ _ = KK; simp; (try subst hK)))
    | (refine VS.keepAt 1 [0, 1] ?_; generalize hK : VS _ _ _ = KK; (try simp); (try subst hK); refine VS.region tabOk (id := 1) [] (by kernel_rfl) ?_; generalize hK : VS _ _ _ = KK; simp (maxSteps := 1000000) [hF]; (try subst hK); try (refine VS.keep [0, 1, 10] ?_; generalize hK : VS _ _ _ = KK; simp; (try subst hK)))
  refine (kind_nil s 0).call [] (by simp) (by simp (maxSteps := 1000000) [hF]) (by simp (maxSteps := 1000000) [hF]) (by simp (maxSteps := 1000000) [hF]) (by simp) ?_
  rintro av X κ ⟨rfl, rfl, rfl⟩
  generalize hK : VS _ _ _ = KK; simp (maxSteps := 1000000) [hF]; (try subst hK)
  repeat first
    | refine VS.seq ?_
    | (refine VS.keepAt 2 [] ?_; generalize hK : VS _ _ _ = KK; (try simp); (try subst hK); refine VS.region tabOk (id := 2) [] (by kernel_rfl) ?_; generalize hK : VS _ _ _ = KK; simp (maxSteps := 1000000) [hF]; (try subst hK); try (refine VS.keep [4, 5] ?_; generalize hK : VS _ _ _ = KK; simp; (try subst hK)))
    | (refine VS.cond ?_; generalize hK1 : VS _ _ _ = KK1; generalize hK2 : VS _ _ _ = KK2; simp (maxSteps := 1000000) [hF]; (try subst hK1); (try subst hK2))
  try refine VS.ret ?_
  repeat first | refine blockN_ret ?_ | refine loopN_ret ?_
  refine endK.of [4, 5] [] [] (by simp [hF]) (by simp [covers, mpre]) ?_
  simp [hF, retK]

/- (*cabochon/lineage.Lineage).Module -/
theorem module_nil : Meets Try.prog 33 [] (.cons avNil .nil) fun av X κ => av = two (0, 1) ∧ X = [] ∧ κ = [] := by
  refine Meets.of_vs tabOk Try.func33 (body := ?_) ?_ (by kernel_rfl) Try.ntmps33 (rs := [.tmp 2, .tmp 3]) (by kernel_rfl) rfl (by simp [AV.len]) (by simp only [envOf]; exact rfl) ?_
  rotate_left
  · rfl
  intro w0 I0 F0 hF
  repeat first
    | refine VS.seq ?_
    | (refine VS.keepAt 0 [0] ?_; generalize hK : VS _ _ _ = KK; (try simp); (try subst hK); refine VS.region tabOk (id := 0) [] (by kernel_rfl) ?_; generalize hK : VS _ _ _ = KK; simp (maxSteps := 1000000) [hF]; (try subst hK); try (refine VS.keep [0] ?_; generalize hK : VS _ _ _ = KK; simp; (try subst hK)))
    | (refine VS.keepAt 1 [0] ?_; generalize hK : VS _ _ _ = KK; (try simp); (try subst hK); refine VS.region tabOk (id := 1) [] (by kernel_rfl) ?_; generalize hK : VS _ _ _ = KK; simp (maxSteps := 1000000) [hF]; (try subst hK); try (refine VS.keep [0, 7] ?_; generalize hK : VS _ _ _ = KK; simp; (try subst hK)))
  refine (len_nil).call [] (by simp) (by simp (maxSteps := 1000000) [hF]) (by simp (maxSteps := 1000000) [hF]) (by simp (maxSteps := 1000000) [hF]) (by simp) ?_
  rintro av X κ ⟨rfl, rfl, rfl⟩
  generalize hK : VS _ _ _ = KK; simp (maxSteps := 1000000) [hF]; (try subst hK)
  repeat first
    | refine VS.seq ?_
    | (refine VS.keepAt 2 [] ?_; generalize hK : VS _ _ _ = KK; (try simp); (try subst hK); refine VS.region tabOk (id := 2) [] (by kernel_rfl) ?_; generalize hK : VS _ _ _ = KK; simp (maxSteps := 1000000) [hF]; (try subst hK); try (refine VS.keep [2, 3] ?_; generalize hK : VS _ _ _ = KK; simp; (try subst hK)))
    | (refine VS.cond ?_; generalize hK1 : VS _ _ _ = KK1; generalize hK2 : VS _ _ _ = KK2; simp (maxSteps := 1000000) [hF]; (try subst hK1); (try subst hK2))
  try refine VS.ret ?_
  repeat first | refine blockN_ret ?_ | refine loopN_ret ?_
  refine endK.of [2, 3] [] [] (by simp [hF]) (by simp [covers, mpre]) ?_
  simp [hF, retK]

/- (*cabochon/lineage.Lineage).put -/
theorem put_nil (t m : Int) (f : Nat) : Meets Try.prog 36 [] (.cons avNil (.cons (avInt t) (.cons (avInt m) (.cons (.fn f .nil) .nil)))) fun av X κ => av = avInt 1 ∧ X = [] ∧ κ = [] := by
  refine Meets.of_vs tabOk Try.func36 (body := ?_) ?_ (by kernel_rfl) Try.ntmps36 (rs := [.tmp 8]) (by kernel_rfl) rfl (by simp [AV.len]) (by simp only [envOf]; exact rfl) ?_
  rotate_left
  · rfl
  intro w0 I0 F0 hF
  repeat first
    | refine VS.seq ?_
    | (refine VS.keepAt 0 [0, 1, 2, 3] ?_; generalize hK : VS _ _ _ = KK; (try simp); (try subst hK); refine VS.region tabOk (id := 0) [] (by kernel_rfl) ?_; generalize hK : VS _ _ _ = KK; simp (maxSteps := 1000000) [hF]; (try subst hK); try (refine VS.keep [0, 1, 2, 3] ?_; generalize hK : VS _ _ _ = KK; simp; (try subst hK)))
    | (refine VS.keepAt 1 [0, 1, 2, 3] ?_; generalize hK : VS _ _ _ = KK; (try simp); (try subst hK); refine VS.region tabOk (id := 1) [(4, 21)] (by kernel_rfl) ?_; generalize hK : VS _ _ _ = KK; simp (maxSteps := 1000000) [hF]; (try subst hK); try (refine VS.keep [0, 1, 2, 3, 26] ?_; generalize hK : VS _ _ _ = KK; simp; (try subst hK)))
  refine (is_nil t).call [] (by simp) (by simp (maxSteps := 1000000) [hF]) (by simp (maxSteps := 1000000) [hF]) (by simp (maxSteps := 1000000) [hF]) (by simp) ?_
  rintro av X κ ⟨rfl, rfl, rfl⟩
  generalize hK : VS _ _ _ = KK; simp (maxSteps := 1000000) [hF]; (try subst hK)
  repeat first
    | refine VS.seq ?_
    | (refine VS.keepAt 2 [] ?_; generalize hK : VS _ _ _ = KK; (try simp); (try subst hK); refine VS.region tabOk (id := 2) [] (by kernel_rfl) ?_; generalize hK : VS _ _ _ = KK; simp (maxSteps := 1000000) [hF]; (try subst hK); try (refine VS.keep [8] ?_; generalize hK : VS _ _ _ = KK; simp; (try subst hK)))
    | (refine VS.cond ?_; generalize hK1 : VS _ _ _ = KK1; generalize hK2 : VS _ _ _ = KK2; simp (maxSteps := 1000000) [hF]; (try subst hK1); (try subst hK2))
  try refine VS.ret ?_
  repeat first | refine blockN_ret ?_ | refine loopN_ret ?_
  refine endK.of [8] [] [] (by simp [hF]) (by simp [covers, mpre]) ?_
  simp [hF, retK]

/- (*cabochon/lineage.Lineage).Include -/
theorem include_nil (t m : Int) : Meets Try.prog 19 [] (.cons avNil (.cons (avInt t) (.cons (avInt m) .nil))) fun av X κ => av = avInt 1 ∧ X = [] ∧ κ = [] := by
  have hp := put_nil t m 38
  refine Meets.of_vs tabOk Try.func19 (body := ?_) ?_ (by kernel_rfl) Try.ntmps19 (rs := [.tmp 6]) (by kernel_rfl) rfl (by simp [AV.len]) (by simp only [envOf]; exact rfl) ?_
  rotate_left
  · rfl
  intro w0 I0 F0 hF
  repeat first
    | refine VS.seq ?_
    | (refine VS.keepAt 0 [0, 1, 2] ?_; generalize hK : VS _ _ _ = KK; (try simp); (try subst hK); refine VS.region tabOk (id := 0) [] (by kernel_rfl) ?_; generalize hK : VS _ _ _ = KK; simp (maxSteps := 1000000) [hF]; (try subst hK); try (refine VS.keep [0, 1, 2] ?_; generalize hK : VS _ _ _ = KK; simp; (try subst hK)))
    | (refine VS.keepAt 1 [0, 1, 2] ?_; generalize hK : VS _ _ _ = KK; (try simp); (try subst hK); refine VS.region tabOk (id := 1) [] (by kernel_rfl) ?_; generalize hK : VS _ _ _ = KK; simp (maxSteps := 1000000) [hF]; (try subst hK); try (refine VS.keep [6] ?_; generalize hK : VS _ _ _ = KK; simp; (try subst hK)))
  refine (hp).call [] (by simp) (by simp (maxSteps := 1000000) [hF]) (by simp (maxSteps := 1000000) [hF]) (by simp (maxSteps := 1000000) [hF]) (by simp) ?_
  rintro av X κ ⟨rfl, rfl, rfl⟩
  generalize hK : VS _ _ _ = KK; simp (maxSteps := 1000000) [hF]; (try subst hK)
  try refine VS.ret ?_
  repeat first | refine blockN_ret ?_ | refine loopN_ret ?_
  refine endK.of [6] [] [] (by simp [hF]) (by simp [covers, mpre]) ?_
  simp [hF, retK]

/- (*cabochon/lineage.Lineage).Prepend -/
theorem prepend_nil (t m : Int) : Meets Try.prog 18 [] (.cons avNil (.cons (avInt t) (.cons (avInt m) .nil))) fun av X κ => av = avInt 1 ∧ X = [] ∧ κ = [] := by
  have hp := put_nil t m 37
  refine Meets.of_vs tabOk Try.func18 (body := ?_) ?_ (by kernel_rfl) Try.ntmps18 (rs := [.tmp 6]) (by kernel_rfl) rfl (by simp [AV.len]) (by simp only [envOf]; exact rfl) ?_
  rotate_left
  · rfl
  intro w0 I0 F0 hF
  repeat first
    | refine VS.seq ?_
    | (refine VS.keepAt 0 [0, 1, 2] ?_; generalize hK : VS _ _ _ = KK; (try simp); (try subst hK); refine VS.region tabOk (id := 0) [] (by kernel_rfl) ?_; generalize hK : VS _ _ _ = KK; simp (maxSteps := 1000000) [hF]; (try subst hK); try (refine VS.keep [0, 1, 2] ?_; generalize hK : VS _ _ _ = KK; simp; (try subst hK)))
    | (refine VS.keepAt 1 [0, 1, 2] ?_; generalize hK : VS _ _ _ = KK; (try simp); (try subst hK); refine VS.region tabOk (id := 1) [] (by kernel_rfl) ?_; generalize hK : VS _ _ _ = KK; simp (maxSteps := 1000000) [hF]; (try subst hK); try (refine VS.keep [6] ?_; generalize hK : VS _ _ _ = KK; simp; (try subst hK)))
  refine (hp).call [] (by simp) (by simp (maxSteps := 1000000) [hF]) (by simp (maxSteps := 1000000) [hF]) (by simp (maxSteps := 1000000) [hF]) (by simp) ?_
  rintro av X κ ⟨rfl, rfl, rfl⟩
  generalize hK : VS _ _ _ = KK; simp (maxSteps := 1000000) [hF]; (try subst hK)
  try refine VS.ret ?_
  repeat first | refine blockN_ret ?_ | refine loopN_ret ?_
  refine endK.of [6] [] [] (by simp [hF]) (by simp [covers, mpre]) ?_
  simp [hF, retK]

/- (*cabochon/lineage.Lineage).Singleton -/
theorem singleton_nil (c o : Int) : Meets Try.prog 35 [] (.cons avNil (.cons (avInt c) (.cons (avInt o) .nil))) fun av X κ => av = two (0, 1) ∧ X = [] ∧ κ = [] := by
  refine Meets.of_vs tabOk Try.func35 (body := ?_) ?_ (by kernel_rfl) Try.ntmps35 (rs := [.tmp 6, .tmp 7]) (by kernel_rfl) rfl (by simp [AV.len]) (by simp only [envOf]; exact rfl) ?_
  rotate_left
  · rfl
  intro w0 I0 F0 hF
  repeat first
    | refine VS.seq ?_
    | (refine VS.keepAt 0 [0, 1, 2] ?_; generalize hK : VS _ _ _ = KK; (try simp); (try subst hK); refine VS.region tabOk (id := 0) [] (by kernel_rfl) ?_; generalize hK : VS _ _ _ = KK; simp (maxSteps := 1000000) [hF]; (try subst hK); try (refine VS.keep [0, 1, 5] ?_; generalize hK : VS _ _ _ = KK; simp; (try subst hK)))
    | (refine VS.keepAt 1 [0, 1, 5] ?_; generalize hK : VS _ _ _ = KK; (try simp); (try subst hK); refine VS.region tabOk (id := 1) [(4, 14), (8, 18)] (by kernel_rfl) ?_; generalize hK : VS _ _ _ = KK; simp (maxSteps := 1000000) [hF]; (try subst hK); try (refine VS.keep [0, 1, 5, 21] ?_; generalize hK : VS _ _ _ = KK; simp; (try subst hK)))
  refine (kind_nil c 0).call [] (by simp) (by simp (maxSteps := 1000000) [hF]) (by simp (maxSteps := 1000000) [hF]) (by simp (maxSteps := 1000000) [hF]) (by simp) ?_
  rintro av X κ ⟨rfl, rfl, rfl⟩
  generalize hK : VS _ _ _ = KK; simp (maxSteps := 1000000) [hF]; (try subst hK)
  repeat first
    | refine VS.seq ?_
    | (refine VS.keepAt 2 [] ?_; generalize hK : VS _ _ _ = KK; (try simp); (try subst hK); refine VS.region tabOk (id := 2) [] (by kernel_rfl) ?_; generalize hK : VS _ _ _ = KK; simp (maxSteps := 1000000) [hF]; (try subst hK); try (refine VS.keep [6, 7] ?_; generalize hK : VS _ _ _ = KK; simp; (try subst hK)))
    | (refine VS.cond ?_; generalize hK1 : VS _ _ _ = KK1; generalize hK2 : VS _ _ _ = KK2; simp (maxSteps := 1000000) [hF]; (try subst hK1); (try subst hK2))
  try refine VS.ret ?_
  repeat first | refine blockN_ret ?_ | refine loopN_ret ?_
  refine endK.of [6, 7] [] [] (by simp [hF]) (by simp [covers, mpre]) ?_
  simp [hF, retK]

/- (*cabochon/lineage.Lineage).Own -/
theorem own_nil (t : Int) : Meets Try.prog 25 [] (.cons avNil (.cons (avInt t) .nil)) fun av X κ => av = two (0, 1) ∧ X = [] ∧ κ = [] := by
  refine Meets.of_vs tabOk Try.func25 (body := ?_) ?_ (by kernel_rfl) Try.ntmps25 (rs := [.tmp 4, .tmp 5]) (by kernel_rfl) rfl (by simp [AV.len]) (by simp only [envOf]; exact rfl) ?_
  rotate_left
  · rfl
  intro w0 I0 F0 hF
  repeat first
    | refine VS.seq ?_
    | (refine VS.keepAt 0 [0, 1] ?_; generalize hK : VS _ _ _ = KK; (try simp); (try subst hK); refine VS.region tabOk (id := 0) [] (by kernel_rfl) ?_; generalize hK : VS _ _ _ = KK; simp (maxSteps := 1000000) [hF]; (try subst hK); try (refine VS.keep [0, 1] ?_; generalize hK : VS _ _ _ = KK; simp; (try subst hK)))
    | (refine VS.keepAt 1 [0, 1] ?_; generalize hK : VS _ _ _ = KK; (try simp); (try subst hK); refine VS.region tabOk (id := 1) [(4, 11)] (by kernel_rfl) ?_; generalize hK : VS _ _ _ = KK; simp (maxSteps := 1000000) [hF]; (try subst hK); try (refine VS.keep [0, 1, 21] ?_; generalize hK : VS _ _ _ = KK; simp; (try subst hK)))
  refine (is_nil t).call [] (by simp) (by simp (maxSteps := 1000000) [hF]) (by simp (maxSteps := 1000000) [hF]) (by simp (maxSteps := 1000000) [hF]) (by simp) ?_
  rintro av X κ ⟨rfl, rfl, rfl⟩
  generalize hK : VS _ _ _ = KK; simp (maxSteps := 1000000) [hF]; (try subst hK)
  repeat first
    | refine VS.seq ?_
    | (refine VS.keepAt 2 [] ?_; generalize hK : VS _ _ _ = KK; (try simp); (try subst hK); refine VS.region tabOk (id := 2) [] (by kernel_rfl) ?_; generalize hK : VS _ _ _ = KK; simp (maxSteps := 1000000) [hF]; (try subst hK); try (refine VS.keep [4, 5] ?_; generalize hK : VS _ _ _ = KK; simp; (try subst hK)))
    | (refine VS.cond ?_; generalize hK1 : VS _ _ _ = KK1; generalize hK2 : VS _ _ _ = KK2; simp (maxSteps := 1000000) [hF]; (try subst hK1); (try subst hK2))
  try refine VS.ret ?_
  repeat first | refine blockN_ret ?_ | refine loopN_ret ?_
  refine endK.of [4, 5] [] [] (by simp [hF]) (by simp [covers, mpre]) ?_
  simp [hF, retK]

/- (*cabochon/lineage.Lineage).Order -/
theorem order_nil (t : Int) : Meets Try.prog 13 [] (.cons avNil (.cons (avInt t) .nil)) fun av X κ => av = avTwo (.nils 1) 1 ∧ X = [] ∧ κ = [] := by
  refine Meets.of_vs tabOk Try.func13 (body := ?_) ?_ (by kernel_rfl) Try.ntmps13 (rs := [.tmp 4, .tmp 5]) (by kernel_rfl) rfl (by simp [AV.len]) (by simp only [envOf]; exact rfl) ?_
  rotate_left
  · rfl
  intro w0 I0 F0 hF
  repeat first
    | refine VS.seq ?_
    | (refine VS.keepAt 0 [0, 1] ?_; generalize hK : VS _ _ _ = KK; (try simp); (try subst hK); refine VS.region tabOk (id := 0) [] (by kernel_rfl) ?_; generalize hK : VS _ _ _ = KK; simp (maxSteps := 1000000) [hF]; (try subst hK); try (refine VS.keep [0, 1] ?_; generalize hK : VS _ _ _ = KK; simp; (try subst hK)))
    | (refine VS.keepAt 1 [0, 1] ?_; generalize hK : VS _ _ _ = KK; (try simp); (try subst hK); refine VS.region tabOk (id := 1) [] (by kernel_rfl) ?_; generalize hK : VS _ _ _ = KK; simp (maxSteps := 1000000) [hF]; (try subst hK); try (refine VS.keep [0, 1, 11] ?_; generalize hK : VS _ _ _ = KK; simp; (try subst hK)))
  refine (is_nil t).call [] (by simp) (by simp (maxSteps := 1000000) [hF]) (by simp (maxSteps := 1000000) [hF]) (by simp (maxSteps := 1000000) [hF]) (by simp) ?_
  rintro av X κ ⟨rfl, rfl, rfl⟩
  generalize hK : VS _ _ _ = KK; simp (maxSteps := 1000000) [hF]; (try subst hK)
  repeat first
    | refine VS.seq ?_
    | (refine VS.keepAt 2 [] ?_; generalize hK : VS _ _ _ = KK; (try simp); (try subst hK); refine VS.region tabOk (id := 2) [] (by kernel_rfl) ?_; generalize hK : VS _ _ _ = KK; simp (maxSteps := 1000000) [hF]; (try subst hK); try (refine VS.keep [4, 5] ?_; generalize hK : VS _ _ _ = KK; simp; (try subst hK)))
    | (refine VS.cond ?_; generalize hK1 : VS _ _ _ = KK1; generalize hK2 : VS _ _ _ = KK2; simp (maxSteps := 1000000) [hF]; (try subst hK1); (try subst hK2))
  try refine VS.ret ?_
  repeat first | refine blockN_ret ?_ | refine loopN_ret ?_
  refine endK.of [4, 5] [] [] (by simp [hF]) (by simp [covers, mpre]) ?_
  simp [hF, retK]

/- (*cabochon/lineage.Lineage).Is -/
theorem Is_nil (t u : Int) : Meets Try.prog 28 [] (.cons avNil (.cons (avInt t) (.cons (avInt u) .nil))) fun av X κ => av = avTwo (avBool false) 1 ∧ X = [] ∧ κ = [] := by
  refine Meets.of_vs tabOk Try.func28 (body := ?_) ?_ (by kernel_rfl) Try.ntmps28 (rs := [.tmp 6, .tmp 7]) (by kernel_rfl) rfl (by simp [AV.len]) (by simp only [envOf]; exact rfl) ?_
  rotate_left
  · rfl
  intro w0 I0 F0 hF
  repeat first
    | refine VS.seq ?_
    | (refine VS.keepAt 0 [0, 1, 2] ?_; generalize hK : VS _ _ _ = KK; (try simp); (try subst hK); refine VS.region tabOk (id := 0) [] (by kernel_rfl) ?_; generalize hK : VS _ _ _ = KK; simp (maxSteps := 1000000) [hF]; (try subst hK); try (refine VS.keep [0, 1, 2] ?_; generalize hK : VS _ _ _ = KK; simp; (try subst hK)))
    | (refine VS.keepAt 1 [0, 1, 2] ?_; generalize hK : VS _ _ _ = KK; (try simp); (try subst hK); refine VS.region tabOk (id := 1) [(4, 14)] (by kernel_rfl) ?_; generalize hK : VS _ _ _ = KK; simp (maxSteps := 1000000) [hF]; (try subst hK); try (refine VS.keep [0, 1, 2, 19] ?_; generalize hK : VS _ _ _ = KK; simp; (try subst hK)))
  refine (is_nil t).call [] (by simp) (by simp (maxSteps := 1000000) [hF]) (by simp (maxSteps := 1000000) [hF]) (by simp (maxSteps := 1000000) [hF]) (by simp) ?_
  rintro av X κ ⟨rfl, rfl, rfl⟩
  generalize hK : VS _ _ _ = KK; simp (maxSteps := 1000000) [hF]; (try subst hK)
  repeat first
    | refine VS.seq ?_
    | (refine VS.keepAt 2 [] ?_; generalize hK : VS _ _ _ = KK; (try simp); (try subst hK); refine VS.region tabOk (id := 2) [] (by kernel_rfl) ?_; generalize hK : VS _ _ _ = KK; simp (maxSteps := 1000000) [hF]; (try subst hK); try (refine VS.keep [6, 7] ?_; generalize hK : VS _ _ _ = KK; simp; (try subst hK)))
    | (refine VS.cond ?_; generalize hK1 : VS _ _ _ = KK1; generalize hK2 : VS _ _ _ = KK2; simp (maxSteps := 1000000) [hF]; (try subst hK1); (try subst hK2))
  try refine VS.ret ?_
  repeat first | refine blockN_ret ?_ | refine loopN_ret ?_
  refine endK.of [6, 7] [] [] (by simp [hF]) (by simp [covers, mpre]) ?_
  simp [hF, retK]

/- (*cabochon/lineage.Lineage).Below -/
theorem below_nil (t : Int) : Meets Try.prog 27 [] (.cons avNil (.cons (avInt t) .nil)) fun av X κ => av = avTwo (.nils 1) 1 ∧ X = [] ∧ κ = [] := by
  refine Meets.of_vs tabOk Try.func27 (body := ?_) ?_ (by kernel_rfl) Try.ntmps27 (rs := [.tmp 4, .tmp 5]) (by kernel_rfl) rfl (by simp [AV.len]) (by simp only [envOf]; exact rfl) ?_
  rotate_left
  · rfl
  intro w0 I0 F0 hF
  repeat first
    | refine VS.seq ?_
    | (refine VS.keepAt 0 [0, 1] ?_; generalize hK : VS _ _ _ = KK; (try simp); (try subst hK); refine VS.region tabOk (id := 0) [] (by kernel_rfl) ?_; generalize hK : VS _ _ _ = KK; simp (maxSteps := 1000000) [hF]; (try subst hK); try (refine VS.keep [0, 1] ?_; generalize hK : VS _ _ _ = KK; simp; (try subst hK)))
    | (refine VS.keepAt 1 [0, 1] ?_; generalize hK : VS _ _ _ = KK; (try simp); (try subst hK); refine VS.region tabOk (id := 1) [] (by kernel_rfl) ?_; generalize hK : VS _ _ _ = KK; simp (maxSteps := 1000000) [hF]; (try subst hK); try (refine VS.keep [0, 1, 14] ?_; generalize hK : VS _ _ _ = KK; simp; (try subst hK)))
  refine (is_nil t).call [] (by simp) (by simp (maxSteps := 1000000) [hF]) (by simp (maxSteps := 1000000) [hF]) (by simp (maxSteps := 1000000) [hF]) (by simp) ?_
  rintro av X κ ⟨rfl, rfl, rfl⟩
  generalize hK : VS _ _ _ = KK; simp (maxSteps := 1000000) [hF]; (try subst hK)
  repeat first
    | refine VS.seq ?_
    | (refine VS.keepAt 2 [] ?_; generalize hK : VS _ _ _ = KK; (try simp); (try subst hK); refine VS.region tabOk (id := 2) [] (by kernel_rfl) ?_; generalize hK : VS _ _ _ = KK; simp (maxSteps := 1000000) [hF]; (try subst hK); try (refine VS.keep [4, 5] ?_; generalize hK : VS _ _ _ = KK; simp; (try subst hK)))
    | (refine VS.cond ?_; generalize hK1 : VS _ _ _ = KK1; generalize hK2 : VS _ _ _ = KK2; simp (maxSteps := 1000000) [hF]; (try subst hK1); (try subst hK2))
  try refine VS.ret ?_
  repeat first | refine blockN_ret ?_ | refine loopN_ret ?_
  refine endK.of [4, 5] [] [] (by simp [hF]) (by simp [covers, mpre]) ?_
  simp [hF, retK]

/- (*cabochon/lineage.Lineage).Copy -/
theorem copy_nil : Meets Try.prog 23 [] (.cons avNil .nil) fun av X κ => av = avNil ∧ X = [] ∧ κ = [] := by
  refine Meets.of_vs tabOk Try.func23 (body := ?_) ?_ (by kernel_rfl) Try.ntmps23 (rs := [.tmp 2]) (by kernel_rfl) rfl (by simp [AV.len]) (by simp only [envOf]; exact rfl) ?_
  rotate_left
  · rfl
  intro w0 I0 F0 hF
  repeat first
    | refine VS.seq ?_
    | (refine VS.keepAt 0 [0] ?_; generalize hK : VS _ _ _ = KK; (try simp); (try subst hK); refine VS.region tabOk (id := 0) [] (by kernel_rfl) ?_; generalize hK : VS _ _ _ = KK; simp (maxSteps := 1000000) [hF]; (try subst hK); try (refine VS.keep [0] ?_; generalize hK : VS _ _ _ = KK; simp; (try subst hK)))
    | (refine VS.keepAt 1 [0] ?_; generalize hK : VS _ _ _ = KK; (try simp); (try subst hK); refine VS.region tabOk (id := 1) [] (by kernel_rfl) ?_; generalize hK : VS _ _ _ = KK; simp (maxSteps := 1000000) [hF]; (try subst hK); try (refine VS.keep [0, 7] ?_; generalize hK : VS _ _ _ = KK; simp; (try subst hK)))
  refine (len_nil).call [] (by simp) (by simp (maxSteps := 1000000) [hF]) (by simp (maxSteps := 1000000) [hF]) (by simp (maxSteps := 1000000) [hF]) (by simp) ?_
  rintro av X κ ⟨rfl, rfl, rfl⟩
  generalize hK : VS _ _ _ = KK; simp (maxSteps := 1000000) [hF]; (try subst hK)
  repeat first
    | refine VS.seq ?_
    | (refine VS.keepAt 2 [] ?_; generalize hK : VS _ _ _ = KK; (try simp); (try subst hK); refine VS.region tabOk (id := 2) [] (by kernel_rfl) ?_; generalize hK : VS _ _ _ = KK; simp (maxSteps := 1000000) [hF]; (try subst hK); try (refine VS.keep [2] ?_; generalize hK : VS _ _ _ = KK; simp; (try subst hK)))
    | (refine VS.cond ?_; generalize hK1 : VS _ _ _ = KK1; generalize hK2 : VS _ _ _ = KK2; simp (maxSteps := 1000000) [hF]; (try subst hK1); (try subst hK2))
  try refine VS.ret ?_
  repeat first | refine blockN_ret ?_ | refine loopN_ret ?_
  refine endK.of [2] [] [] (by simp [hF]) (by simp [covers, mpre]) ?_
  simp [hF, retK]
theorem copy_unmade : Meets Try.prog 23 [dL []] (.cons (.ptr 0 [.d]) .nil) fun av X κ => av = avNil ∧ X = [dL []] ∧ κ = [] := by
  refine Meets.of_vs tabOk Try.func23 (body := ?_) ?_ (by kernel_rfl) Try.ntmps23 (rs := [.tmp 2]) (by kernel_rfl) rfl (by simp [AV.len]) (by simp only [envOf]; exact rfl) ?_
  rotate_left
  · rfl
  intro w0 I0 F0 hF
  repeat first
    | refine VS.seq ?_
    | (refine VS.keepAt 0 [0] ?_; generalize hK : VS _ _ _ = KK; (try simp); (try subst hK); refine VS.region tabOk (id := 0) [] (by kernel_rfl) ?_; generalize hK : VS _ _ _ = KK; simp (maxSteps := 1000000) [hF]; (try subst hK); try (refine VS.keep [0] ?_; generalize hK : VS _ _ _ = KK; simp; (try subst hK)))
    | (refine VS.keepAt 1 [0] ?_; generalize hK : VS _ _ _ = KK; (try simp); (try subst hK); refine VS.region tabOk (id := 1) [] (by kernel_rfl) ?_; generalize hK : VS _ _ _ = KK; simp (maxSteps := 1000000) [hF]; (try subst hK); try (refine VS.keep [0, 7] ?_; generalize hK : VS _ _ _ = KK; simp; (try subst hK)))
  refine (len_ok [] (by simp)).call [(0, [])] (by simp) (by simp (maxSteps := 1000000) [hF, dL]) (by simp (maxSteps := 1000000) [hF, dL]) (by simp (maxSteps := 1000000) [hF, dL]) (by simp) ?_
  rintro av X κ ⟨rfl, rfl, rfl⟩
  generalize hK : VS _ _ _ = KK; simp (maxSteps := 1000000) [hF, dL]; (try subst hK)
  repeat first
    | refine VS.seq ?_
    | (refine VS.keepAt 2 [] ?_; generalize hK : VS _ _ _ = KK; (try simp); (try subst hK); refine VS.region tabOk (id := 2) [] (by kernel_rfl) ?_; generalize hK : VS _ _ _ = KK; simp (maxSteps := 1000000) [hF]; (try subst hK); try (refine VS.keep [2] ?_; generalize hK : VS _ _ _ = KK; simp; (try subst hK)))
    | (refine VS.cond ?_; generalize hK1 : VS _ _ _ = KK1; generalize hK2 : VS _ _ _ = KK2; simp (maxSteps := 1000000) [hF]; (try subst hK1); (try subst hK2))
  try refine VS.ret ?_
  repeat first | refine blockN_ret ?_ | refine loopN_ret ?_
  refine endK.of [2] [0] [] (by simp [hF]) (by simp [covers, mpre]) ?_
  simp [hF, retK, dL]

/- cabochon/cabochonlaw18.do -/
theorem do_nil (d : Deed) (h : 0 ≤ d.op ∧ d.op < 6) : Meets Try.prog 16 [] (.cons avNil (.cons (avDeed d) .nil))
    fun av X κ => av = two (0, 1) ∧ X = [] ∧ κ = [] := by
  unfold avDeed
  refine Meets.of_vs tabOk Try.func16 (body := ?_) ?_ (by kernel_rfl) Try.ntmps16 (rs := [.tmp 4, .tmp 5]) (by kernel_rfl) rfl (by simp [AV.len]) (by simp only [envOf]; exact rfl) ?_
  rotate_left
  · rfl
  intro w0 I0 F0 hF
  repeat first
    | refine VS.seq ?_
    | refine VS.block ?_
    | (refine VS.keepAt 0 [0, 1] ?_; generalize hK : VS _ _ _ = KK; (try simp); (try subst hK); refine VS.region tabOk (id := 0) [] (by kernel_rfl) ?_; generalize hK : VS _ _ _ = KK; simp (maxSteps := 1000000) [hF]; (try subst hK); try (refine VS.keep [0, 3] ?_; generalize hK : VS _ _ _ = KK; simp; (try subst hK)))
    | (refine VS.keepAt 1 [0, 3] ?_; generalize hK : VS _ _ _ = KK; (try simp); (try subst hK); refine VS.region tabOk (id := 1) [] (by kernel_rfl) ?_; generalize hK : VS _ _ _ = KK; simp (maxSteps := 1000000) [hF]; (try subst hK); try (refine VS.keep [0, 3, 7] ?_; generalize hK : VS _ _ _ = KK; simp; (try subst hK)))
    | (refine VS.keepAt 2 [0, 3, 7] ?_; generalize hK : VS _ _ _ = KK; (try simp); (try subst hK); refine VS.region tabOk (id := 2) [] (by kernel_rfl) ?_; generalize hK : VS _ _ _ = KK; simp (maxSteps := 1000000) [hF]; (try subst hK); try (refine VS.keep [0, 3, 7, 8] ?_; generalize hK : VS _ _ _ = KK; simp; (try subst hK)))
    | (refine VS.cond ?_; generalize hK1 : VS _ _ _ = KK1; generalize hK2 : VS _ _ _ = KK2; simp (maxSteps := 1000000) [hF]; (try subst hK1); (try subst hK2))
  refine ⟨fun h0 => ?_, fun h0 => ?_⟩
  · repeat first
      | refine VS.seq ?_
      | (refine VS.keepAt 3 [0, 3] ?_; generalize hK : VS _ _ _ = KK; (try simp); (try subst hK); refine VS.region tabOk (id := 3) [] (by kernel_rfl) ?_; generalize hK : VS _ _ _ = KK; simp (maxSteps := 1000000) [hF]; (try subst hK); try (refine VS.keep [4, 5] ?_; generalize hK : VS _ _ _ = KK; simp; (try subst hK)))
    refine (class_nil d.a).call [] (by simp) (by simp (maxSteps := 1000000) [hF]) (by simp (maxSteps := 1000000) [hF]) (by simp (maxSteps := 1000000) [hF]) (by simp) ?_
    rintro av X κ ⟨rfl, rfl, rfl⟩
    generalize hK : VS _ _ _ = KK; simp (maxSteps := 1000000) [hF]; (try subst hK)
    try refine VS.ret ?_
    repeat first | refine blockN_ret ?_ | refine loopN_ret ?_
    refine endK.of [4, 5] [] [] (by simp [hF]) (by simp [covers, mpre]) ?_
    simp [hF, retK]
  repeat first
    | refine VS.seq ?_
    | (refine VS.keepAt 4 [0, 3, 7] ?_; generalize hK : VS _ _ _ = KK; (try simp); (try subst hK); refine VS.region tabOk (id := 4) [] (by kernel_rfl) ?_; generalize hK : VS _ _ _ = KK; simp (maxSteps := 1000000) [hF]; (try subst hK); try (refine VS.keep [0, 3, 7, 16] ?_; generalize hK : VS _ _ _ = KK; simp; (try subst hK)))
    | (refine VS.cond ?_; generalize hK1 : VS _ _ _ = KK1; generalize hK2 : VS _ _ _ = KK2; simp (maxSteps := 1000000) [hF]; (try subst hK1); (try subst hK2))
  refine ⟨fun h1 => ?_, fun h1 => ?_⟩
  · repeat first
      | refine VS.seq ?_
      | (refine VS.keepAt 5 [0] ?_; generalize hK : VS _ _ _ = KK; (try simp); (try subst hK); refine VS.region tabOk (id := 5) [] (by kernel_rfl) ?_; generalize hK : VS _ _ _ = KK; simp (maxSteps := 1000000) [hF]; (try subst hK); try (refine VS.keep [4, 5] ?_; generalize hK : VS _ _ _ = KK; simp; (try subst hK)))
    refine (module_nil).call [] (by simp) (by simp (maxSteps := 1000000) [hF]) (by simp (maxSteps := 1000000) [hF]) (by simp (maxSteps := 1000000) [hF]) (by simp) ?_
    rintro av X κ ⟨rfl, rfl, rfl⟩
    generalize hK : VS _ _ _ = KK; simp (maxSteps := 1000000) [hF]; (try subst hK)
    try refine VS.ret ?_
    repeat first | refine blockN_ret ?_ | refine loopN_ret ?_
    refine endK.of [4, 5] [] [] (by simp [hF]) (by simp [covers, mpre]) ?_
    simp [hF, retK]
  repeat first
    | refine VS.seq ?_
    | (refine VS.keepAt 6 [0, 3, 7] ?_; generalize hK : VS _ _ _ = KK; (try simp); (try subst hK); refine VS.region tabOk (id := 6) [] (by kernel_rfl) ?_; generalize hK : VS _ _ _ = KK; simp (maxSteps := 1000000) [hF]; (try subst hK); try (refine VS.keep [0, 3, 7, 22] ?_; generalize hK : VS _ _ _ = KK; simp; (try subst hK)))
    | (refine VS.cond ?_; generalize hK1 : VS _ _ _ = KK1; generalize hK2 : VS _ _ _ = KK2; simp (maxSteps := 1000000) [hF]; (try subst hK1); (try subst hK2))
  refine ⟨fun h2 => ?_, fun h2 => ?_⟩
  · repeat first
      | refine VS.seq ?_
      | (refine VS.keepAt 7 [0, 3] ?_; generalize hK : VS _ _ _ = KK; (try simp); (try subst hK); refine VS.region tabOk (id := 7) [] (by kernel_rfl) ?_; generalize hK : VS _ _ _ = KK; simp (maxSteps := 1000000) [hF]; (try subst hK); try (refine VS.keep [4, 5] ?_; generalize hK : VS _ _ _ = KK; simp; (try subst hK)))
    refine (include_nil d.a d.b).call [] (by simp) (by simp (maxSteps := 1000000) [hF]) (by simp (maxSteps := 1000000) [hF]) (by simp (maxSteps := 1000000) [hF]) (by simp) ?_
    rintro av X κ ⟨rfl, rfl, rfl⟩
    generalize hK : VS _ _ _ = KK; simp (maxSteps := 1000000) [hF]; (try subst hK)
    try refine VS.ret ?_
    repeat first | refine blockN_ret ?_ | refine loopN_ret ?_
    refine endK.of [4, 5] [] [] (by simp [hF]) (by simp [covers, mpre]) ?_
    simp [hF, retK]
  repeat first
    | refine VS.seq ?_
    | (refine VS.keepAt 8 [0, 3, 7] ?_; generalize hK : VS _ _ _ = KK; (try simp); (try subst hK); refine VS.region tabOk (id := 8) [] (by kernel_rfl) ?_; generalize hK : VS _ _ _ = KK; simp (maxSteps := 1000000) [hF]; (try subst hK); try (refine VS.keep [0, 3, 7, 30] ?_; generalize hK : VS _ _ _ = KK; simp; (try subst hK)))
    | (refine VS.cond ?_; generalize hK1 : VS _ _ _ = KK1; generalize hK2 : VS _ _ _ = KK2; simp (maxSteps := 1000000) [hF]; (try subst hK1); (try subst hK2))
  refine ⟨fun h3 => ?_, fun h3 => ?_⟩
  · repeat first
      | refine VS.seq ?_
      | (refine VS.keepAt 9 [0, 3] ?_; generalize hK : VS _ _ _ = KK; (try simp); (try subst hK); refine VS.region tabOk (id := 9) [] (by kernel_rfl) ?_; generalize hK : VS _ _ _ = KK; simp (maxSteps := 1000000) [hF]; (try subst hK); try (refine VS.keep [4, 5] ?_; generalize hK : VS _ _ _ = KK; simp; (try subst hK)))
    refine (prepend_nil d.a d.b).call [] (by simp) (by simp (maxSteps := 1000000) [hF]) (by simp (maxSteps := 1000000) [hF]) (by simp (maxSteps := 1000000) [hF]) (by simp) ?_
    rintro av X κ ⟨rfl, rfl, rfl⟩
    generalize hK : VS _ _ _ = KK; simp (maxSteps := 1000000) [hF]; (try subst hK)
    try refine VS.ret ?_
    repeat first | refine blockN_ret ?_ | refine loopN_ret ?_
    refine endK.of [4, 5] [] [] (by simp [hF]) (by simp [covers, mpre]) ?_
    simp [hF, retK]
  repeat first
    | refine VS.seq ?_
    | (refine VS.keepAt 10 [0, 3, 7] ?_; generalize hK : VS _ _ _ = KK; (try simp); (try subst hK); refine VS.region tabOk (id := 10) [] (by kernel_rfl) ?_; generalize hK : VS _ _ _ = KK; simp (maxSteps := 1000000) [hF]; (try subst hK); try (refine VS.keep [0, 3, 7, 38] ?_; generalize hK : VS _ _ _ = KK; simp; (try subst hK)))
    | (refine VS.cond ?_; generalize hK1 : VS _ _ _ = KK1; generalize hK2 : VS _ _ _ = KK2; simp (maxSteps := 1000000) [hF]; (try subst hK1); (try subst hK2))
  refine ⟨fun h4 => ?_, fun h4 => ?_⟩
  · repeat first
      | refine VS.seq ?_
      | (refine VS.keepAt 11 [0, 3] ?_; generalize hK : VS _ _ _ = KK; (try simp); (try subst hK); refine VS.region tabOk (id := 11) [] (by kernel_rfl) ?_; generalize hK : VS _ _ _ = KK; simp (maxSteps := 1000000) [hF]; (try subst hK); try (refine VS.keep [4, 5] ?_; generalize hK : VS _ _ _ = KK; simp; (try subst hK)))
    refine (singleton_nil d.a d.b).call [] (by simp) (by simp (maxSteps := 1000000) [hF]) (by simp (maxSteps := 1000000) [hF]) (by simp (maxSteps := 1000000) [hF]) (by simp) ?_
    rintro av X κ ⟨rfl, rfl, rfl⟩
    generalize hK : VS _ _ _ = KK; simp (maxSteps := 1000000) [hF]; (try subst hK)
    try refine VS.ret ?_
    repeat first | refine blockN_ret ?_ | refine loopN_ret ?_
    refine endK.of [4, 5] [] [] (by simp [hF]) (by simp [covers, mpre]) ?_
    simp [hF, retK]
  repeat first
    | refine VS.seq ?_
    | (refine VS.keepAt 12 [0, 3, 7] ?_; generalize hK : VS _ _ _ = KK; (try simp); (try subst hK); refine VS.region tabOk (id := 12) [] (by kernel_rfl) ?_; generalize hK : VS _ _ _ = KK; simp (maxSteps := 1000000) [hF]; (try subst hK); try (refine VS.keep [0, 3, 48] ?_; generalize hK : VS _ _ _ = KK; simp; (try subst hK)))
    | (refine VS.cond ?_; generalize hK1 : VS _ _ _ = KK1; generalize hK2 : VS _ _ _ = KK2; simp (maxSteps := 1000000) [hF]; (try subst hK1); (try subst hK2))
  refine ⟨fun h5 => ?_, fun h5 => ?_⟩
  · repeat first
      | refine VS.seq ?_
      | (refine VS.keepAt 13 [0, 3] ?_; generalize hK : VS _ _ _ = KK; (try simp); (try subst hK); refine VS.region tabOk (id := 13) [] (by kernel_rfl) ?_; generalize hK : VS _ _ _ = KK; simp (maxSteps := 1000000) [hF]; (try subst hK); try (refine VS.keep [4, 5] ?_; generalize hK : VS _ _ _ = KK; simp; (try subst hK)))
    refine (own_nil d.a).call [] (by simp) (by simp (maxSteps := 1000000) [hF]) (by simp (maxSteps := 1000000) [hF]) (by simp (maxSteps := 1000000) [hF]) (by simp) ?_
    rintro av X κ ⟨rfl, rfl, rfl⟩
    generalize hK : VS _ _ _ = KK; simp (maxSteps := 1000000) [hF]; (try subst hK)
    try refine VS.ret ?_
    repeat first | refine blockN_ret ?_ | refine loopN_ret ?_
    refine endK.of [4, 5] [] [] (by simp [hF]) (by simp [covers, mpre]) ?_
    simp [hF, retK]
  omega

theorem N0_base : Base ([] : List Th) fun _ => 0 := ⟨fun t x h => by simp at h, fun t x h => by simp at h, fun t x h => by simp at h, by simp⟩
theorem N0_OK : OK ([] : List Th) :=
  ⟨⟨⟨_, N0_base⟩, fun t h => by simp at h⟩, fun x h => by simp at h, fun t x h => by simp at h, fun t x h => by simp at h, fun t x h => by simp at h, fun t x h => by simp at h⟩
theorem doOf_nil (d : Deed) (h : 0 ≤ d.op ∧ d.op < 6) : doOf [] d = ([], 0, 1) := by
  have hv : ∀ t, val [] t = false := fun t => by simp [val]
  have : d.op = 0 ∨ d.op = 1 ∨ d.op = 2 ∨ d.op = 3 ∨ d.op = 4 ∨ d.op = 5 := by omega
  rcases this with h | h | h | h | h | h <;> simp [doOf, h, classOf, moduleOf, putI, putP, singletonOf, ownOf, hv]
end Go.Proofs.Ytahgopdamgagkaa

/- LineageNothing: a lineage that is nil, or was not made, has nothing. -/
namespace Go.Proofs.Ytahgopdamgagkaa
set_option linter.all false
open Go.Vc Go.Proofs
set_option linter.unusedSimpArgs false
set_option linter.unusedVariables false
set_option maxRecDepth 100000
set_option maxHeartbeats 4000000
attribute [local irreducible] CallW EqK

/- cabochon/cabochonlaw18.LineageNothing -/
theorem nothing_ok (ex : Bool) (d : Deed) (a b : Int) : Meets Try.prog 10 [] (.cons (avDeed d) (.cons (avInt a) (.cons (avInt b) .nil))) fun av X κ => av = .val (.bool true) := by
  unfold avDeed
  refine Meets.of_vs tabOk Try.func10 (body := ?_) ?_ (by kernel_rfl) Try.ntmps10 (rs := [.tmp 6]) (by kernel_rfl) rfl (by simp [AV.len]) (by simp only [envOf]; exact rfl) ?_
  rotate_left
  · rfl
  intro w0 I0 F0 hF
  repeat first
    | refine VS.seq ?_
    | refine VS.block ?_
    | (refine VS.keepAt 0 [0, 1, 2] ?_; generalize hK : VS _ _ _ = KK; (try simp); (try subst hK); refine VS.region tabOk (id := 0) [] (by kernel_rfl) ?_; generalize hK : VS _ _ _ = KK; simp (maxSteps := 1000000) [hF]; (try subst hK); try (refine VS.keep [1, 2, 3] ?_; generalize hK : VS _ _ _ = KK; simp; (try subst hK)))
    | (refine VS.keepAt 1 [1, 2, 3] ?_; generalize hK : VS _ _ _ = KK; (try simp); (try subst hK); refine VS.region tabOk (id := 1) [] (by kernel_rfl) ?_; generalize hK : VS _ _ _ = KK; simp (maxSteps := 1000000) [hF]; (try subst hK); try (refine VS.keep [1, 2, 3, 7] ?_; generalize hK : VS _ _ _ = KK; simp; (try subst hK)))
    | (refine VS.keepAt 2 [1, 2, 3, 7] ?_; generalize hK : VS _ _ _ = KK; (try simp); (try subst hK); refine VS.region tabOk (id := 2) [] (by kernel_rfl) ?_; generalize hK : VS _ _ _ = KK; simp (maxSteps := 1000000) [hF]; (try subst hK); try (refine VS.keep [1, 2, 3, 8] ?_; generalize hK : VS _ _ _ = KK; simp; (try subst hK)))
    | (refine VS.keepAt 3 [1, 2, 3, 8] ?_; generalize hK : VS _ _ _ = KK; (try simp); (try subst hK); refine VS.region tabOk (id := 3) [] (by kernel_rfl) ?_; generalize hK : VS _ _ _ = KK; simp (maxSteps := 1000000) [hF]; (try subst hK); try (refine VS.keep [1, 2, 3, 8, 9] ?_; generalize hK : VS _ _ _ = KK; simp; (try subst hK)))
  refine VS.rounds (fun n st => ∃ (i : Nat), i + n = 2 ∧ st = ⟨[(1, avInt a), (2, avInt b), (3, .ptr 0 [.d]), (8, .sub 2 [] 0 2 true), (9, .val (.int .i64 (i : Int)))],
    [.box true () (dDeed d), .junk (), .sl true () 1 (.cons (.val (.pointer none)) (.cons (dL []) .nil))], [], []⟩) ⟨2, 0, rfl, rfl⟩ ?_
  rintro n st ⟨i, hi, rfl⟩
  obtain ⟨q, hq, h1, h2⟩ : ∃ q, IntKind.i64.wrap ((IntKind.u64.wrap d.op).tmod 6) = q ∧ 0 ≤ q ∧ q < 6 := ⟨_, IntWalk.i64_in _ (by have := partOf_nonneg d.op (n := 6); have := partOf_lt d.op (n := 6) (by omega); simp only [partOf] at *; omega), partOf_nonneg d.op, partOf_lt d.op (by omega)⟩
  have hN : dL [] = .box true () (.agg (.cons (.sl true () 6 (dThs [])) .nil)) := rfl
  have hi3 : i = 0 ∨ i = 1 ∨ i = 2 := by omega
  rcases hi3 with rfl | rfl | rfl
  · repeat first
      | refine VS.seq ?_
      | refine VS.skip ?_
      | refine VS.block ?_
      | (refine VS.keepAt 4 [1, 2, 3, 8, 9] ?_; generalize hK : VS _ _ _ = KK; (try simp); (try subst hK); refine VS.region tabOk (id := 4) [] (by kernel_rfl) ?_; generalize hK : VS _ _ _ = KK; simp (maxSteps := 1000000) [hF, dDeed, hq]; (try subst hK); try (refine VS.keep [1, 2, 3, 8, 9, 23] ?_; generalize hK : VS _ _ _ = KK; simp; (try subst hK)))
      | (refine VS.keepAt 6 [1, 2, 3, 8, 9] ?_; generalize hK : VS _ _ _ = KK; (try simp); (try subst hK); refine VS.drawn tabOk mixedOk (id := 6) [] [⟨0, 256, 134217728, 5⟩, ⟨0, 512, 268435456, 5⟩, ⟨3, 402653184, 536870912, 5⟩, ⟨4, 536870912, 1073741824, 6⟩, ⟨0, 8, 2147483648, 5⟩, ⟨16, 2147483648, 4294967296, 6⟩, ⟨32, 4294967296, 8589934592, 5⟩, ⟨64, 8589934592, 17179869184, 5⟩, ⟨128, 17179869184, 34359738368, 5⟩, ⟨0, 8, 68719476736, 5⟩, ⟨512, 68719476736, 137438953472, 6⟩, ⟨0, 8, 274877906944, 5⟩, ⟨2048, 274877906944, 549755813888, 6⟩, ⟨5376, 721554505728, 1099511627776, 5⟩, ⟨8200, 1100585369600, 2199023255552, 0⟩, ⟨16384, 2199023255552, 67108864, 5⟩, ⟨32768, 67108864, 4398046511104, 5⟩, ⟨32768, 67108864, 8796093022208, 5⟩, ⟨131071, 4398046511104, 1024, 5⟩, ⟨524287, 8796093022208, 2048, 5⟩] (.take 0 (.take 1 (.take 2 (.take 3 (.take 4 (.take 5 (.take 6 (.take 7 (.take 8 (.take 9 (.take 10 (.take 11 (.take 12 (.take 13 (.fork (.alt 14 (.take 15 (.take 16 (.take 17 (.take 18 (.take 19 (.done)))))) (.nil))))))))))))))))) (.run [0, 1, 2, 3, 4, 5, 6, 7, 8, 9, 10, 11, 12, 13, 14, 15, 16, 17, 18, 19] (.done)) (by kernel_rfl) (by kernel_rfl) (by kernel_rfl) ?_; generalize hK : VS _ _ _ = KK; simp only [opsVc_run, opsVc_both, opsVc_chk, opsVc_done, opsVc_yes, pick_cons, pick_nil, List.getElem?_cons_zero, List.getElem?_cons_succ]; simp (maxSteps := 1000000) [hF, dDeed, hq]; (try subst hK); try (refine VS.keep [1, 2, 3, 8, 9, 10, 11] ?_; generalize hK : VS _ _ _ = KK; simp; (try subst hK)))
      | (refine VS.cond ?_; generalize hK1 : VS _ _ _ = KK1; generalize hK2 : VS _ _ _ = KK2; simp (maxSteps := 1000000) [hF, dDeed, hq]; (try subst hK1); (try subst hK2))
    refine (do_nil ⟨q, d.a, d.b⟩ ⟨h1, h2⟩).call [] (by simp) (by simp (maxSteps := 1000000) [hF, dDeed, avDeed]) (by simp (maxSteps := 1000000) [hF, dDeed, avDeed]) (by simp (maxSteps := 1000000) [hF, dDeed, avDeed]) (by simp) ?_
    rintro av X κ ⟨rfl, rfl, rfl⟩
    generalize hK : VS _ _ _ = KK; simp (maxSteps := 1000000) [hF, dDeed, avDeed]; (try subst hK)
    repeat first
      | refine VS.seq ?_
      | (refine VS.keepAt 7 [1, 2, 3, 8, 9, 10, 11] ?_; generalize hK : VS _ _ _ = KK; (try simp); (try subst hK); refine VS.region tabOk (id := 7) [] (by kernel_rfl) ?_; generalize hK : VS _ _ _ = KK; simp (maxSteps := 1000000) [hF]; (try subst hK); try (refine VS.keep [1, 2, 3, 8, 9, 10, 11, 12, 13] ?_; generalize hK : VS _ _ _ = KK; simp; (try subst hK)))
    refine (order_nil a).call [] (by simp) (by simp (maxSteps := 1000000) [hF, dDeed]) (by simp (maxSteps := 1000000) [hF, dDeed]) (by simp (maxSteps := 1000000) [hF, dDeed]) (by simp) ?_
    rintro av X κ ⟨rfl, rfl, rfl⟩
    generalize hK : VS _ _ _ = KK; simp (maxSteps := 1000000) [hF, dDeed]; (try subst hK)
    repeat first
      | refine VS.seq ?_
      | (refine VS.keepAt 8 [1, 2, 3, 8, 9, 10, 11, 12, 13] ?_; generalize hK : VS _ _ _ = KK; (try simp); (try subst hK); refine VS.region tabOk (id := 8) [] (by kernel_rfl) ?_; generalize hK : VS _ _ _ = KK; simp (maxSteps := 1000000) [hF]; (try subst hK); try (refine VS.keep [1, 2, 3, 8, 9, 10, 11, 12, 13, 15] ?_; generalize hK : VS _ _ _ = KK; simp; (try subst hK)))
    refine (Is_nil a b).call [] (by simp) (by simp (maxSteps := 1000000) [hF, dDeed]) (by simp (maxSteps := 1000000) [hF, dDeed]) (by simp (maxSteps := 1000000) [hF, dDeed]) (by simp) ?_
    rintro av X κ ⟨rfl, rfl, rfl⟩
    generalize hK : VS _ _ _ = KK; simp (maxSteps := 1000000) [hF, dDeed]; (try subst hK)
    repeat first
      | refine VS.seq ?_
      | (refine VS.keepAt 9 [1, 2, 3, 8, 9, 10, 11, 12, 13, 15] ?_; generalize hK : VS _ _ _ = KK; (try simp); (try subst hK); refine VS.region tabOk (id := 9) [] (by kernel_rfl) ?_; generalize hK : VS _ _ _ = KK; simp (maxSteps := 1000000) [hF]; (try subst hK); try (refine VS.keep [1, 2, 3, 8, 9, 10, 11, 12, 13, 15, 17] ?_; generalize hK : VS _ _ _ = KK; simp; (try subst hK)))
    refine (below_nil a).call [] (by simp) (by simp (maxSteps := 1000000) [hF, dDeed]) (by simp (maxSteps := 1000000) [hF, dDeed]) (by simp (maxSteps := 1000000) [hF, dDeed]) (by simp) ?_
    rintro av X κ ⟨rfl, rfl, rfl⟩
    generalize hK : VS _ _ _ = KK; simp (maxSteps := 1000000) [hF, dDeed]; (try subst hK)
    repeat first
      | refine VS.seq ?_
      | (refine VS.keepAt 10 [1, 2, 3, 8, 9, 10, 11, 12, 13, 15, 17] ?_; generalize hK : VS _ _ _ = KK; (try simp); (try subst hK); refine VS.region tabOk (id := 10) [(2, 74), (6, 78), (10, 82), (15, 87), (19, 91), (23, 95), (31, 103)] (by kernel_rfl) ?_; generalize hK : VS _ _ _ = KK; simp (maxSteps := 1000000) [hF]; (try subst hK); try (refine VS.keep [1, 2, 3, 8, 9, 110] ?_; generalize hK : VS _ _ _ = KK; simp; (try subst hK)))
    refine (len_nil).call [] (by simp) (by simp (maxSteps := 1000000) [hF, dDeed]) (by simp (maxSteps := 1000000) [hF, dDeed]) (by simp (maxSteps := 1000000) [hF, dDeed]) (by simp) ?_
    rintro av X κ ⟨rfl, rfl, rfl⟩
    generalize hK : VS _ _ _ = KK; simp (maxSteps := 1000000) [hF, dDeed]; (try subst hK)
    refine (copy_nil).call [] (by simp) (by simp (maxSteps := 1000000) [hF, dDeed]) (by simp (maxSteps := 1000000) [hF, dDeed]) (by simp (maxSteps := 1000000) [hF, dDeed]) (by simp) ?_
    rintro av X κ ⟨rfl, rfl, rfl⟩
    generalize hK : VS _ _ _ = KK; simp (maxSteps := 1000000) [hF, dDeed]; (try subst hK)
    repeat first
      | refine VS.skip ?_
      | refine VS.nil ?_
      | refine blockN_normal ?_
      | refine loopN_normal ?_
      | (refine VS.keepAt 5 [1, 2, 3, 8, 9] ?_; generalize hK : VS _ _ _ = KK; (try simp); (try subst hK); refine VS.region tabOk (id := 5) [] (by kernel_rfl) ?_; generalize hK : VS _ _ _ = KK; simp (maxSteps := 1000000) [hF]; (try subst hK); try (refine VS.keep [1, 2, 3, 8, 9] ?_; generalize hK : VS _ _ _ = KK; simp; (try subst hK)))
      | (refine VS.cond ?_; generalize hK1 : VS _ _ _ = KK1; generalize hK2 : VS _ _ _ = KK2; simp (maxSteps := 1000000) [hF]; (try subst hK1); (try subst hK2))
    refine nextK.of [1, 2, 3, 8, 9] [0, 1, 2] (1) (by omega) (by simp [hF]) ?_
    exact ⟨1, rfl, rfl⟩
  · have hdo := doOf_nil ⟨q, d.a, d.b⟩ ⟨h1, h2⟩
    have hva : val [] a = false := by simp [val]
    repeat first
      | refine VS.seq ?_
      | refine VS.skip ?_
      | refine VS.block ?_
      | (refine VS.keepAt 4 [1, 2, 3, 8, 9] ?_; generalize hK : VS _ _ _ = KK; (try simp); (try subst hK); refine VS.region tabOk (id := 4) [] (by kernel_rfl) ?_; generalize hK : VS _ _ _ = KK; simp (maxSteps := 1000000) [hF, dDeed, hq, hN]; (try subst hK); try (refine VS.keep [1, 2, 3, 8, 9, 23] ?_; generalize hK : VS _ _ _ = KK; simp; (try subst hK)))
      | (refine VS.keepAt 6 [1, 2, 3, 8, 9] ?_; generalize hK : VS _ _ _ = KK; (try simp); (try subst hK); refine VS.drawn tabOk mixedOk (id := 6) [] [⟨0, 256, 134217728, 5⟩, ⟨0, 512, 268435456, 5⟩, ⟨3, 402653184, 536870912, 5⟩, ⟨4, 536870912, 1073741824, 6⟩, ⟨0, 8, 2147483648, 5⟩, ⟨16, 2147483648, 4294967296, 6⟩, ⟨32, 4294967296, 8589934592, 5⟩, ⟨64, 8589934592, 17179869184, 5⟩, ⟨128, 17179869184, 34359738368, 5⟩, ⟨0, 8, 68719476736, 5⟩, ⟨512, 68719476736, 137438953472, 6⟩, ⟨0, 8, 274877906944, 5⟩, ⟨2048, 274877906944, 549755813888, 6⟩, ⟨5376, 721554505728, 1099511627776, 5⟩, ⟨8200, 1100585369600, 2199023255552, 0⟩, ⟨16384, 2199023255552, 67108864, 5⟩, ⟨32768, 67108864, 4398046511104, 5⟩, ⟨32768, 67108864, 8796093022208, 5⟩, ⟨131071, 4398046511104, 1024, 5⟩, ⟨524287, 8796093022208, 2048, 5⟩] (.take 0 (.take 1 (.take 2 (.take 3 (.take 4 (.take 5 (.take 6 (.take 7 (.take 8 (.take 9 (.take 10 (.take 11 (.take 12 (.take 13 (.fork (.alt 14 (.take 15 (.take 16 (.take 17 (.take 18 (.take 19 (.done)))))) (.nil))))))))))))))))) (.run [0, 1, 2, 3, 4, 5, 6, 7, 8, 9, 10, 11, 12, 13, 14, 15, 16, 17, 18, 19] (.done)) (by kernel_rfl) (by kernel_rfl) (by kernel_rfl) ?_; generalize hK : VS _ _ _ = KK; simp only [opsVc_run, opsVc_both, opsVc_chk, opsVc_done, opsVc_yes, pick_cons, pick_nil, List.getElem?_cons_zero, List.getElem?_cons_succ]; simp (maxSteps := 1000000) [hF, dDeed, hq, hN]; (try subst hK); try (refine VS.keep [1, 2, 3, 8, 9, 10, 11] ?_; generalize hK : VS _ _ _ = KK; simp; (try subst hK)))
      | (refine VS.cond ?_; generalize hK1 : VS _ _ _ = KK1; generalize hK2 : VS _ _ _ = KK2; simp (maxSteps := 1000000) [hF, dDeed, hq, hN]; (try subst hK1); (try subst hK2))
    refine (do_ok N0_OK ⟨q, d.a, d.b⟩).call [(2, [.i 1])] (by simp) (by simp (maxSteps := 1000000) [hF, dDeed, avDeed, hN, hdo]) (by simp (maxSteps := 1000000) [hF, dDeed, avDeed, hN, hdo]) (by simp (maxSteps := 1000000) [hF, dDeed, avDeed, hN, hdo]) (by simp) ?_
    rintro av X κ ⟨rfl, rfl, rfl⟩
    generalize hK : VS _ _ _ = KK; simp (maxSteps := 1000000) [hF, dDeed, avDeed, hN, hdo]; (try subst hK)
    repeat first
      | refine VS.seq ?_
      | (refine VS.keepAt 7 [1, 2, 3, 8, 9, 10, 11] ?_; generalize hK : VS _ _ _ = KK; (try simp); (try subst hK); refine VS.region tabOk (id := 7) [] (by kernel_rfl) ?_; generalize hK : VS _ _ _ = KK; simp (maxSteps := 1000000) [hF, hN]; (try subst hK); try (refine VS.keep [1, 2, 3, 8, 9, 10, 11, 12, 13] ?_; generalize hK : VS _ _ _ = KK; simp; (try subst hK)))
    refine (Order_no (L := []) (by simp) a hva).call [(2, [.i 1])] (by simp) (by simp (maxSteps := 1000000) [hF, dDeed, hN]) (by simp (maxSteps := 1000000) [hF, dDeed, hN]) (by simp (maxSteps := 1000000) [hF, dDeed, hN]) (by simp) ?_
    rintro av X κ ⟨rfl, rfl, rfl⟩
    generalize hK : VS _ _ _ = KK; simp (maxSteps := 1000000) [hF, dDeed, hN]; (try subst hK)
    repeat first
      | refine VS.seq ?_
      | (refine VS.keepAt 8 [1, 2, 3, 8, 9, 10, 11, 12, 13] ?_; generalize hK : VS _ _ _ = KK; (try simp); (try subst hK); refine VS.region tabOk (id := 8) [] (by kernel_rfl) ?_; generalize hK : VS _ _ _ = KK; simp (maxSteps := 1000000) [hF, hN]; (try subst hK); try (refine VS.keep [1, 2, 3, 8, 9, 10, 11, 12, 13, 15] ?_; generalize hK : VS _ _ _ = KK; simp; (try subst hK)))
    refine (Is_no (L := []) (by simp) a b hva).call [(2, [.i 1])] (by simp) (by simp (maxSteps := 1000000) [hF, dDeed, hN]) (by simp (maxSteps := 1000000) [hF, dDeed, hN]) (by simp (maxSteps := 1000000) [hF, dDeed, hN]) (by simp) ?_
    rintro av X κ ⟨rfl, rfl, rfl⟩
    generalize hK : VS _ _ _ = KK; simp (maxSteps := 1000000) [hF, dDeed, hN]; (try subst hK)
    repeat first
      | refine VS.seq ?_
      | (refine VS.keepAt 9 [1, 2, 3, 8, 9, 10, 11, 12, 13, 15] ?_; generalize hK : VS _ _ _ = KK; (try simp); (try subst hK); refine VS.region tabOk (id := 9) [] (by kernel_rfl) ?_; generalize hK : VS _ _ _ = KK; simp (maxSteps := 1000000) [hF, hN]; (try subst hK); try (refine VS.keep [1, 2, 3, 8, 9, 10, 11, 12, 13, 15, 17] ?_; generalize hK : VS _ _ _ = KK; simp; (try subst hK)))
    refine (Below_no (L := []) (by simp) a hva).call [(2, [.i 1])] (by simp) (by simp (maxSteps := 1000000) [hF, dDeed, hN]) (by simp (maxSteps := 1000000) [hF, dDeed, hN]) (by simp (maxSteps := 1000000) [hF, dDeed, hN]) (by simp) ?_
    rintro av X κ ⟨rfl, rfl, rfl⟩
    generalize hK : VS _ _ _ = KK; simp (maxSteps := 1000000) [hF, dDeed, hN]; (try subst hK)
    repeat first
      | refine VS.seq ?_
      | (refine VS.keepAt 10 [1, 2, 3, 8, 9, 10, 11, 12, 13, 15, 17] ?_; generalize hK : VS _ _ _ = KK; (try simp); (try subst hK); refine VS.region tabOk (id := 10) [(2, 74), (6, 78), (10, 82), (15, 87), (19, 91), (23, 95), (31, 103)] (by kernel_rfl) ?_; generalize hK : VS _ _ _ = KK; simp (maxSteps := 1000000) [hF, hN]; (try subst hK); try (refine VS.keep [1, 2, 3, 8, 9, 110] ?_; generalize hK : VS _ _ _ = KK; simp; (try subst hK)))
    refine (len_ok [] (by simp)).call [(2, [.i 1])] (by simp) (by simp (maxSteps := 1000000) [hF, dDeed, hN]) (by simp (maxSteps := 1000000) [hF, dDeed, hN]) (by simp (maxSteps := 1000000) [hF, dDeed, hN]) (by simp) ?_
    rintro av X κ ⟨rfl, rfl, rfl⟩
    generalize hK : VS _ _ _ = KK; simp (maxSteps := 1000000) [hF, dDeed, hN]; (try subst hK)
    refine (copy_unmade).call [(2, [.i 1])] (by simp) (by simp (maxSteps := 1000000) [hF, dDeed, hN]) (by simp (maxSteps := 1000000) [hF, dDeed, hN]) (by simp (maxSteps := 1000000) [hF, dDeed, hN]) (by simp) ?_
    rintro av X κ ⟨rfl, rfl, rfl⟩
    generalize hK : VS _ _ _ = KK; simp (maxSteps := 1000000) [hF, dDeed, hN]; (try subst hK)
    repeat first
      | refine VS.skip ?_
      | refine VS.nil ?_
      | refine blockN_normal ?_
      | refine loopN_normal ?_
      | (refine VS.keepAt 5 [1, 2, 3, 8, 9] ?_; generalize hK : VS _ _ _ = KK; (try simp); (try subst hK); refine VS.region tabOk (id := 5) [] (by kernel_rfl) ?_; generalize hK : VS _ _ _ = KK; simp (maxSteps := 1000000) [hF]; (try subst hK); try (refine VS.keep [1, 2, 3, 8, 9] ?_; generalize hK : VS _ _ _ = KK; simp; (try subst hK)))
      | (refine VS.cond ?_; generalize hK1 : VS _ _ _ = KK1; generalize hK2 : VS _ _ _ = KK2; simp (maxSteps := 1000000) [hF]; (try subst hK1); (try subst hK2))
    refine nextK.of [1, 2, 3, 8, 9] [0, 1, 2] (0) (by omega) (by simp [hF]) ?_
    exact ⟨2, rfl, rfl⟩
  · repeat first
      | refine VS.seq ?_
      | refine VS.exit ?_
      | (refine VS.keepAt 4 [1, 2, 3, 8, 9] ?_; generalize hK : VS _ _ _ = KK; (try simp); (try subst hK); refine VS.region tabOk (id := 4) [] (by kernel_rfl) ?_; generalize hK : VS _ _ _ = KK; simp (maxSteps := 1000000) [hF]; (try subst hK); try (refine VS.keep [1, 2, 3, 8, 9, 23] ?_; generalize hK : VS _ _ _ = KK; simp; (try subst hK)))
      | (refine VS.keepAt 12 [] ?_; generalize hK : VS _ _ _ = KK; (try simp); (try subst hK); refine VS.region tabOk (id := 12) [] (by kernel_rfl) ?_; generalize hK : VS _ _ _ = KK; simp (maxSteps := 1000000) [hF]; (try subst hK); try (refine VS.keep [6] ?_; generalize hK : VS _ _ _ = KK; simp; (try subst hK)))
      | (refine VS.cond ?_; generalize hK1 : VS _ _ _ = KK1; generalize hK2 : VS _ _ _ = KK2; simp (maxSteps := 1000000) [hF]; (try subst hK1); (try subst hK2))
    refine (sane_ok).call [] (by simp) (by simp (maxSteps := 1000000) [hF, dDeed]) (by simp (maxSteps := 1000000) [hF, dDeed]) (by simp (maxSteps := 1000000) [hF, dDeed]) (by simp) ?_
    rintro av X κ ⟨rfl, rfl, rfl⟩
    generalize hK : VS _ _ _ = KK; simp (maxSteps := 1000000) [hF, dDeed]; (try subst hK)
    try refine VS.ret ?_
    repeat first | refine blockN_ret ?_ | refine loopN_ret ?_
    refine endK.of [6] [] [] (by simp [hF]) (by simp [covers, mpre]) ?_
    simp [hF, retK]
end Go.Proofs.Ytahgopdamgagkaa

/- Proved: LineageNothing returns true for every input, and its arguments read behind the call as before. No condition. -/
namespace Go.Proofs.Ytahgopdamgagkaa.lineageNothing
set_option linter.all false
open Go.Vc Go.ChangeShapes Go.WideShapes Go.ChangeAt Go.RowKit
set_option linter.unusedVariables false

theorem own : ownKnob Try.prog.godebug = none := by kernel_rfl
theorem laid : laidOutB Try.prog = true := by kernel_rfl

set_option maxRecDepth 100000 in
theorem lifted (os : Os) (started : os.Started) (H : Type) (enc : TypeId × Value → H) :
    ReturnsInHanded {} Try.checked os 10 .any (Rows.lineageNothingSpec.pre6 enc Try.prog Try.f10 Rows.lineageNothingRow.domain false) (Rows.lineageNothingSpec.post enc Try.prog Try.f10 false true false false) := by
  refine returnsInHanded_of_change (C := Try.checked) own started (by kernel_rfl) Try.func10
    (ChangeSpec.witness6 (enc := enc) (C := Try.checked) false ⟨#[], #[.agg #[.int .i64 0, .int .i64 0, .int .i64 0], .int .i64 0, .int .i64 0], []⟩ 8 (by kernel_rfl) (by kernel_rfl) (by kernel_rfl) (by kernel_rfl)) ?_
  intro W base args ds gs before hval0 hW hcnd _
  have hval : ∀ (j : Nat) t v, Try.f10.params[j]? = some t → args[j]? = some v → Value.okWide Try.prog W .any base t v := hval0
  have hW' := hW
  obtain ⟨p, q, hA0, hV, rfl, hfz, hnd⟩ := hW
  have hA : DataW.TrodAll enc Try.prog W 0 (fun _ => true) true Try.f10.params.toList args.toList ds p := hA0
  rw [Try.params10] at hA hval
  obtain ⟨v0, vs0, d0, ds0, p0, q0, hargs0, rfl, rfl, h0, r0⟩ := trodAll_cons hA
  obtain ⟨v1, vs1, d1, ds1, p1, q1, hargs1, rfl, rfl, h1, r1⟩ := trodAll_cons r0
  obtain ⟨v2, vs2, d2, ds2, p2, q2, hargs2, rfl, rfl, h2, r2⟩ := trodAll_cons r1
  obtain ⟨rfl, rfl, rfl⟩ := trodAll_nil r2
  subst hargs2
  subst hargs1
  obtain rfl : args = #[v0, v1, v2] := by cases args; simp_all
  obtain ⟨rfl, rfl⟩ := trodVars_none hV
  obtain ⟨a0, hr0⟩ := deed_of (hval 0 34 v0 rfl rfl) h0
  obtain ⟨a1, hr1⟩ := int_of (hval 1 3 v1 rfl rfl) h1
  obtain ⟨a2, hr2⟩ := int_of (hval 2 3 v2 rfl rfl) h2
  clear hA0 hval0
  have hwalk : Calls Try.prog 10 #[v0, v1, v2] W fun e w' => e = .returned (.bool true) ∧ Below W.heap.size W w' :=
    Meets.law (nothing_ok false a0 a1 a2) (vs := [v0, v1, v2]) (I := allB W) (fun _ h => h) ⟨v0, _, rfl, hr0, ⟨v1, _, rfl, hr1, ⟨v2, _, rfl, hr2, rfl⟩⟩⟩
  refine hwalk.mono fun e W' ⟨he, bel⟩ => ?_
  subst he
  exact ⟨_, rfl, _, _, _, [], _, [], hW', trodAll_mk1 (shut_bool Try.underlying4 _), (trodAll_cons_mk (Below.trod laid (by kernel_rfl) (of_decide_eq_true (by kernel_rfl)) h0 bel fun x hx => hW'.lt x (by simp [hx])) (trodAll_cons_mk (Below.trod laid (by kernel_rfl) (of_decide_eq_true (by kernel_rfl)) h1 bel fun x hx => hW'.lt x (by simp [hx])) (trodAll_cons_mk (Below.trod laid (by kernel_rfl) (of_decide_eq_true (by kernel_rfl)) h2 bel fun x hx => hW'.lt x (by simp [hx])) trodAll_mk0))), rfl, bel.frame _, fun h => by cases h⟩

theorem over : Rows.lineageNothingRow.holds Try.pinned (OpenSpec.ofChange Rows.lineageNothingSpec) :=
  OpenClaim.holds_of_wide 10 Try.f10 rfl rfl rfl rfl rfl rfl rfl ⟨rfl, rfl, rfl, rfl, rfl⟩ rfl rfl rfl rfl rfl (by kernel_rfl) Try.func10 (by kernel_rfl)
    (of_decide_eq_true (by kernel_rfl)) (by unfold Func.isWrapper; first | (rw [if_pos (by decide +kernel)]; kernel_rfl) | (rw [if_neg (by decide +kernel)]; exact ⟨rfl, rfl⟩))
    (fun os started H enc _ => lifted os started H enc)

/-- THE STATEMENT -/
theorem proved : Rows.LineageNothingSaid :=
  over
end Go.Proofs.Ytahgopdamgagkaa.lineageNothing
