/- The reference's own. -/
import Derived.Test.YthcndkpkkaphoaaGb
import Derived.Test.YthcndkpkkaphoaaGc
namespace Go.Proofs.Ythcndkpkkaphoaa
set_option linter.all false
open Go.Vc Go.Proofs
set_option linter.unusedSimpArgs false
set_option maxRecDepth 100000
set_option maxHeartbeats 4000000
attribute [local irreducible] CallW EqK

/- cabochon/cabochonref20.New -/
theorem rnew_ok : Meets Try.prog 13 [] .nil fun av X κ => av = .ptr 0 [.d] ∧ X = [dRSp sp0] ∧ κ = [] := by
  refine Meets.of_vs tabOk Try.func13 (body := ?_) ?_ (by kernel_rfl) Try.ntmps13 (rs := [.tmp 0]) (by kernel_rfl) rfl (by simp [AV.len]) (by simp only [envOf]; exact rfl) ?_
  rotate_left
  · rfl
  intro w0 I0 F0 hF
  repeat first
    | refine VS.seq ?_
    | refine VS.skip ?_
    | refine VS.block ?_
    | refine VS.nil ?_
    | refine blockN_normal ?_
    | refine loopN_normal ?_
    | refine VS.exit ?_
    | refine blockN_hit ?_
    | refine blockN_miss (by decide) ?_
    | refine loopN_exit ?_
    | refine ⟨⟨by omega, by omega⟩, ?_⟩
    | (refine VS.region tabOk (id := 0) [] (by kernel_rfl) ?_; generalize hK : VS _ _ _ = KK; simp [hF]; try subst hK; try (refine VS.keep [] ?_; generalize hK : VS _ _ _ = KK; simp; try subst hK))
    | (refine VS.region tabOk (id := 1) [] (by kernel_rfl) ?_; generalize hK : VS _ _ _ = KK; simp [hF]; try subst hK; try (refine VS.keep [0] ?_; generalize hK : VS _ _ _ = KK; simp; try subst hK))
    | (refine VS.cond ?_; generalize hK1 : VS _ _ _ = KK1; generalize hK2 : VS _ _ _ = KK2; simp [hF]; try subst hK1; try subst hK2)
  try refine VS.ret ?_
  repeat first | refine blockN_ret ?_ | refine loopN_ret ?_
  refine endK.of [0] [1] [] (by simp [hF]) (by simp [covers, mpre]) ?_
  simp [hF, retK]
  rfl

/- (*cabochon/cabochonref20.Space).no -/
theorem no_ok (S : Sp) : Meets Try.prog 39 [dRSp S] (.cons (.ptr 0 [.d]) .nil) fun av X κ => av = .val (.bool false) ∧ X = [dRSp S] ∧ κ = [] := by
  refine Meets.of_vs tabOk Try.func39 (body := ?_) ?_ (by kernel_rfl) Try.ntmps39 (rs := [.tmp 2]) (by kernel_rfl) rfl (by simp [AV.len]) (by simp only [envOf]; exact rfl) ?_
  rotate_left
  · rfl
  intro w0 I0 F0 hF
  repeat first
    | refine VS.seq ?_
    | refine VS.skip ?_
    | refine VS.block ?_
    | refine VS.nil ?_
    | refine blockN_normal ?_
    | refine loopN_normal ?_
    | refine VS.exit ?_
    | refine blockN_hit ?_
    | refine blockN_miss (by decide) ?_
    | refine loopN_exit ?_
    | refine ⟨⟨by omega, by omega⟩, ?_⟩
    | (refine VS.region tabOk (id := 0) [] (by kernel_rfl) ?_; generalize hK : VS _ _ _ = KK; simp [hF, dRSp, dBool]; try subst hK; try (refine VS.keep [0] ?_; generalize hK : VS _ _ _ = KK; simp; try subst hK))
    | (refine VS.region tabOk (id := 1) [(2, 5)] (by kernel_rfl) ?_; generalize hK : VS _ _ _ = KK; simp [hF, dRSp, dBool]; try subst hK; try (refine VS.keep [2] ?_; generalize hK : VS _ _ _ = KK; simp; try subst hK))
    | (refine VS.cond ?_; generalize hK1 : VS _ _ _ = KK1; generalize hK2 : VS _ _ _ = KK2; simp [hF, dRSp, dBool]; try subst hK1; try subst hK2)
  try refine VS.ret ?_
  repeat first | refine blockN_ret ?_ | refine loopN_ret ?_
  refine endK.of [2] [0] [] (by simp [hF]) (by simp [covers, mpre]) ?_
  simp [hF, retK, dRSp, dBool]

/-- Is there an object? (The space is one that New made.) -/
def robjB (S : Sp) (o : Int) : Bool := decide (0 ≤ o ∧ o < S.objs.length)

/- (*cabochon/cabochonref20.Space).object -/
theorem object_ok (S : Sp) (hS : 0 < S.shapes.length) (o : Int) : Meets Try.prog 44 [dRSp S] (.cons (.ptr 0 [.d]) (.cons (avInt o) .nil)) fun av X κ => av = .val (.bool (hasB S o)) ∧ X = [dRSp S] ∧ κ = [] := by
  refine Meets.of_vs tabOk Try.func44 (body := ?_) ?_ (by kernel_rfl) Try.ntmps44 (rs := [.tmp 4]) (by kernel_rfl) rfl (by simp [AV.len]) (by simp only [envOf]; exact rfl) ?_
  rotate_left
  · rfl
  intro w0 I0 F0 hF
  repeat first
    | refine VS.seq ?_
    | refine VS.skip ?_
    | refine VS.block ?_
    | refine VS.nil ?_
    | refine blockN_normal ?_
    | refine loopN_normal ?_
    | refine VS.exit ?_
    | refine blockN_hit ?_
    | refine blockN_miss (by decide) ?_
    | refine loopN_exit ?_
    | refine ⟨⟨by omega, by omega⟩, ?_⟩
    | (refine VS.region tabOk (id := 0) [] (by kernel_rfl) ?_; generalize hK : VS _ _ _ = KK; simp [hF]; try subst hK; try (refine VS.keep [0, 1] ?_; generalize hK : VS _ _ _ = KK; simp; try subst hK))
    | (refine VS.region tabOk (id := 1) [(3, 8), (7, 12)] (by kernel_rfl) ?_; generalize hK : VS _ _ _ = KK; simp [hF]; try subst hK; try (refine VS.keep [4] ?_; generalize hK : VS _ _ _ = KK; simp; try subst hK))
    | (refine VS.cond ?_; generalize hK1 : VS _ _ _ = KK1; generalize hK2 : VS _ _ _ = KK2; simp [hF]; try subst hK1; try subst hK2)
  refine (no_ok S).call [(0, [])] (by simp) (by simp [hF, dRSp, dBool]) (by simp [hF, dRSp, dBool]) (by simp [hF, dRSp, dBool]) ?_
  rintro av X κ ⟨rfl, rfl, rfl⟩
  generalize hK : VS _ _ _ = KK; simp [hF, dRSp, dBool]; try subst hK
  refine ⟨fun h1 => ?_, fun h1 => ?_⟩
  all_goals
    repeat first
      | refine VS.seq ?_
      | refine VS.skip ?_
      | refine VS.block ?_
      | refine VS.nil ?_
      | refine blockN_normal ?_
      | refine loopN_normal ?_
      | refine VS.exit ?_
      | refine blockN_hit ?_
      | refine blockN_miss (by decide) ?_
      | refine loopN_exit ?_
      | refine ⟨⟨by omega, by omega⟩, ?_⟩
      | (refine VS.region tabOk (id := 0) [] (by kernel_rfl) ?_; generalize hK : VS _ _ _ = KK; simp [hF]; try subst hK; try (refine VS.keep [0, 1] ?_; generalize hK : VS _ _ _ = KK; simp; try subst hK))
      | (refine VS.region tabOk (id := 1) [(3, 8), (7, 12)] (by kernel_rfl) ?_; generalize hK : VS _ _ _ = KK; simp [hF]; try subst hK; try (refine VS.keep [4] ?_; generalize hK : VS _ _ _ = KK; simp; try subst hK))
      | (refine VS.cond ?_; generalize hK1 : VS _ _ _ = KK1; generalize hK2 : VS _ _ _ = KK2; simp [hF]; try subst hK1; try subst hK2)
    try refine VS.ret ?_
    repeat first | refine blockN_ret ?_ | refine loopN_ret ?_
    refine endK.of [4] [0] [] (by simp [hF]) (by simp [covers, mpre]) ?_
    simp [hF, retK, dRSp, dBool, hasB, hS]
    omega

def namedB (n : ByteArray) : Bool := decide (¬ (n = noName ∨ 40 < n.size))

/- cabochon/cabochonref20.named -/
theorem rnamed_ok (n : ByteArray) : Meets Try.prog 45 [] (.cons (.val (.string n)) .nil) fun av X κ => av = .val (.bool (namedB n)) ∧ X = [] ∧ κ = [] := by
  refine Meets.of_vs tabOk Try.func45 (body := ?_) ?_ (by kernel_rfl) Try.ntmps45 (rs := [.tmp 2]) (by kernel_rfl) rfl (by simp [AV.len]) (by simp only [envOf]; exact rfl) ?_
  rotate_left
  · rfl
  intro w0 I0 F0 hF
  repeat first
    | refine VS.seq ?_
    | refine VS.skip ?_
    | refine VS.block ?_
    | refine VS.nil ?_
    | refine blockN_normal ?_
    | refine loopN_normal ?_
    | refine VS.exit ?_
    | refine blockN_hit ?_
    | refine blockN_miss (by decide) ?_
    | refine loopN_exit ?_
    | refine ⟨⟨by omega, by omega⟩, ?_⟩
    | (refine VS.region tabOk (id := 0) [] (by kernel_rfl) ?_; generalize hK : VS _ _ _ = KK; simp [hF]; try subst hK; try (refine VS.keep [0] ?_; generalize hK : VS _ _ _ = KK; simp; try subst hK))
    | (refine VS.region tabOk (id := 1) [(3, 6)] (by kernel_rfl) ?_; generalize hK : VS _ _ _ = KK; simp [hF]; try subst hK; try (refine VS.keep [2] ?_; generalize hK : VS _ _ _ = KK; simp; try subst hK))
    | (refine VS.cond ?_; generalize hK1 : VS _ _ _ = KK1; generalize hK2 : VS _ _ _ = KK2; simp [hF]; try subst hK1; try subst hK2)
  have hz : 0 < n.size ↔ ¬ n = noName := by
    constructor
    · intro h e; rw [e] at h; exact absurd h (by decide)
    · intro h
      rcases Nat.eq_zero_or_pos n.size with h0 | h0
      · exact absurd (ByteArray.ext (Array.eq_empty_of_size_eq_zero h0)) h
      · exact h0
  refine ⟨fun h => ?_, fun h => ?_⟩
  · have h1 := hz.1 h
    by_cases h2 : n.size ≤ 40
    · have h3 : ¬ 40 < n.size := by omega
      have h4 : (n.size : Int) ≤ 40 := by omega
      try refine VS.ret ?_
      repeat first | refine blockN_ret ?_ | refine loopN_ret ?_
      refine endK.of [2] [] [] (by simp [hF]) (by simp [covers, mpre]) ?_
      simp [hF, retK, namedB, h1, h3, h4]
    · have h3 : 40 < n.size := by omega
      have h4 : ¬ (n.size : Int) ≤ 40 := by omega
      try refine VS.ret ?_
      repeat first | refine blockN_ret ?_ | refine loopN_ret ?_
      refine endK.of [2] [] [] (by simp [hF]) (by simp [covers, mpre]) ?_
      simp [hF, retK, namedB, h1, h3, h4]
  · have h1 : ByteArray.empty = noName := rfl
    try refine VS.ret ?_
    repeat first | refine blockN_ret ?_ | refine loopN_ret ?_
    refine endK.of [2] [] [] (by simp [hF]) (by simp [covers, mpre]) ?_
    simp [hF, retK, namedB, h, h1]

/- cabochon/cabochonref20.place -/
theorem place_ok (own ex : Bool) (l : List ByteArray) (n0 : ByteArray) (hl : l.length ≤ 1000000) : Meets Try.prog 46 [.sl own () 1 (dStrs l)] (.cons (.sub 0 [] 0 l.length ex) (.cons (.val (.string n0)) .nil))
    fun av X κ => av = .val (.int .i64 (posIn n0 l)) ∧ X = [.sl own () 1 (dStrs l)] ∧ κ = [] := by
  refine Meets.of_vs tabOk Try.func46 (body := ?_) ?_ (by kernel_rfl) Try.ntmps46 (rs := [.tmp 4]) (by kernel_rfl) rfl (by simp [AV.len]) (by simp only [envOf]; exact rfl) ?_
  rotate_left
  · rfl
  intro w0 I0 F0 hF
  repeat first
    | refine VS.seq ?_
    | refine VS.skip ?_
    | refine VS.block ?_
    | refine VS.nil ?_
    | refine blockN_normal ?_
    | refine loopN_normal ?_
    | refine VS.exit ?_
    | refine blockN_hit ?_
    | refine blockN_miss (by decide) ?_
    | refine loopN_exit ?_
    | refine ⟨⟨by omega, by omega⟩, ?_⟩
    | (refine VS.region tabOk (id := 0) [] (by kernel_rfl) ?_; generalize hK : VS _ _ _ = KK; simp [hF]; try subst hK; try (refine VS.keep [0, 1] ?_; generalize hK : VS _ _ _ = KK; simp; try subst hK))
    | (refine VS.region tabOk (id := 1) [] (by kernel_rfl) ?_; generalize hK : VS _ _ _ = KK; simp [hF]; try subst hK; try (refine VS.keep [0, 1, 5] ?_; generalize hK : VS _ _ _ = KK; simp; try subst hK))
    | (refine VS.region tabOk (id := 2) [] (by kernel_rfl) ?_; generalize hK : VS _ _ _ = KK; simp [hF]; try subst hK; try (refine VS.keep [0, 1, 5, 9] ?_; generalize hK : VS _ _ _ = KK; simp; try subst hK))
    | (refine VS.region tabOk (id := 3) [] (by kernel_rfl) ?_; generalize hK : VS _ _ _ = KK; simp [hF]; try subst hK; try (refine VS.keep [0, 1, 5] ?_; generalize hK : VS _ _ _ = KK; simp; try subst hK))
    | (refine VS.region tabOk (id := 4) [] (by kernel_rfl) ?_; generalize hK : VS _ _ _ = KK; simp [hF]; try subst hK; try (refine VS.keep [0, 1, 5, 17] ?_; generalize hK : VS _ _ _ = KK; simp; try subst hK))
    | (refine VS.region tabOk (id := 5) [] (by kernel_rfl) ?_; generalize hK : VS _ _ _ = KK; simp [hF]; try subst hK; try (refine VS.keep [4] ?_; generalize hK : VS _ _ _ = KK; simp; try subst hK))
    | (refine VS.region tabOk (id := 6) [] (by kernel_rfl) ?_; generalize hK : VS _ _ _ = KK; simp [hF]; try subst hK; try (refine VS.keep [4] ?_; generalize hK : VS _ _ _ = KK; simp; try subst hK))
    | (refine VS.cond ?_; generalize hK1 : VS _ _ _ = KK1; generalize hK2 : VS _ _ _ = KK2; simp [hF]; try subst hK1; try subst hK2)
  refine VS.rounds (fun m st => ∃ (i : Nat), i + m = l.length ∧ (∀ j, j < i → ∀ hj : j < l.length, l[j] ≠ n0) ∧
    st = ⟨[(0, .sub 0 [] 0 l.length ex), (1, .val (.string n0)), (5, avInt i)], [.sl own () 1 (dStrs l)], [], []⟩) ⟨l.length, 0, by simp, by simp, rfl⟩ ?_
  rintro m st ⟨i, hi, hall, rfl⟩
  repeat first
    | refine VS.seq ?_
    | refine VS.skip ?_
    | refine VS.block ?_
    | refine VS.nil ?_
    | refine blockN_normal ?_
    | refine loopN_normal ?_
    | refine VS.exit ?_
    | refine blockN_hit ?_
    | refine blockN_miss (by decide) ?_
    | refine loopN_exit ?_
    | refine ⟨⟨by omega, by omega⟩, ?_⟩
    | (refine VS.region tabOk (id := 0) [] (by kernel_rfl) ?_; generalize hK : VS _ _ _ = KK; simp [hF]; try subst hK; try (refine VS.keep [0, 1] ?_; generalize hK : VS _ _ _ = KK; simp; try subst hK))
    | (refine VS.region tabOk (id := 1) [] (by kernel_rfl) ?_; generalize hK : VS _ _ _ = KK; simp [hF]; try subst hK; try (refine VS.keep [0, 1, 5] ?_; generalize hK : VS _ _ _ = KK; simp; try subst hK))
    | (refine VS.region tabOk (id := 2) [] (by kernel_rfl) ?_; generalize hK : VS _ _ _ = KK; simp [hF]; try subst hK; try (refine VS.keep [0, 1, 5, 9] ?_; generalize hK : VS _ _ _ = KK; simp; try subst hK))
    | (refine VS.region tabOk (id := 3) [] (by kernel_rfl) ?_; generalize hK : VS _ _ _ = KK; simp [hF]; try subst hK; try (refine VS.keep [0, 1, 5] ?_; generalize hK : VS _ _ _ = KK; simp; try subst hK))
    | (refine VS.region tabOk (id := 4) [] (by kernel_rfl) ?_; generalize hK : VS _ _ _ = KK; simp [hF]; try subst hK; try (refine VS.keep [0, 1, 5, 17] ?_; generalize hK : VS _ _ _ = KK; simp; try subst hK))
    | (refine VS.region tabOk (id := 5) [] (by kernel_rfl) ?_; generalize hK : VS _ _ _ = KK; simp [hF]; try subst hK; try (refine VS.keep [4] ?_; generalize hK : VS _ _ _ = KK; simp; try subst hK))
    | (refine VS.region tabOk (id := 6) [] (by kernel_rfl) ?_; generalize hK : VS _ _ _ = KK; simp [hF]; try subst hK; try (refine VS.keep [4] ?_; generalize hK : VS _ _ _ = KK; simp; try subst hK))
    | (refine VS.cond ?_; generalize hK1 : VS _ _ _ = KK1; generalize hK2 : VS _ _ _ = KK2; simp [hF]; try subst hK1; try subst hK2)
  refine ⟨fun hlt => ?_, fun hge => ?_⟩
  · have hs := dStrs_nth hlt
    repeat first
      | refine VS.seq ?_
      | refine VS.skip ?_
      | refine VS.block ?_
      | refine VS.nil ?_
      | refine blockN_normal ?_
      | refine loopN_normal ?_
      | refine VS.exit ?_
      | refine blockN_hit ?_
      | refine blockN_miss (by decide) ?_
      | refine loopN_exit ?_
      | refine ⟨⟨by omega, by omega⟩, ?_⟩
      | (refine VS.region tabOk (id := 0) [] (by kernel_rfl) ?_; generalize hK : VS _ _ _ = KK; simp [hF, hlt, hs]; try subst hK; try (refine VS.keep [0, 1] ?_; generalize hK : VS _ _ _ = KK; simp; try subst hK))
      | (refine VS.region tabOk (id := 1) [] (by kernel_rfl) ?_; generalize hK : VS _ _ _ = KK; simp [hF, hlt, hs]; try subst hK; try (refine VS.keep [0, 1, 5] ?_; generalize hK : VS _ _ _ = KK; simp; try subst hK))
      | (refine VS.region tabOk (id := 2) [] (by kernel_rfl) ?_; generalize hK : VS _ _ _ = KK; simp [hF, hlt, hs]; try subst hK; try (refine VS.keep [0, 1, 5, 9] ?_; generalize hK : VS _ _ _ = KK; simp; try subst hK))
      | (refine VS.region tabOk (id := 3) [] (by kernel_rfl) ?_; generalize hK : VS _ _ _ = KK; simp [hF, hlt, hs]; try subst hK; try (refine VS.keep [0, 1, 5] ?_; generalize hK : VS _ _ _ = KK; simp; try subst hK))
      | (refine VS.region tabOk (id := 4) [] (by kernel_rfl) ?_; generalize hK : VS _ _ _ = KK; simp [hF, hlt, hs]; try subst hK; try (refine VS.keep [0, 1, 5, 17] ?_; generalize hK : VS _ _ _ = KK; simp; try subst hK))
      | (refine VS.region tabOk (id := 5) [] (by kernel_rfl) ?_; generalize hK : VS _ _ _ = KK; simp [hF, hlt, hs]; try subst hK; try (refine VS.keep [4] ?_; generalize hK : VS _ _ _ = KK; simp; try subst hK))
      | (refine VS.region tabOk (id := 6) [] (by kernel_rfl) ?_; generalize hK : VS _ _ _ = KK; simp [hF, hlt, hs]; try subst hK; try (refine VS.keep [4] ?_; generalize hK : VS _ _ _ = KK; simp; try subst hK))
      | (refine VS.cond ?_; generalize hK1 : VS _ _ _ = KK1; generalize hK2 : VS _ _ _ = KK2; simp [hF, hlt, hs]; try subst hK1; try subst hK2)
    refine ⟨fun he => ?_, fun he => ?_⟩
    · repeat first
        | refine VS.seq ?_
        | refine VS.skip ?_
        | refine VS.block ?_
        | refine VS.nil ?_
        | refine blockN_normal ?_
        | refine loopN_normal ?_
        | refine VS.exit ?_
        | refine blockN_hit ?_
        | refine blockN_miss (by decide) ?_
        | refine loopN_exit ?_
        | refine ⟨⟨by omega, by omega⟩, ?_⟩
        | (refine VS.region tabOk (id := 0) [] (by kernel_rfl) ?_; generalize hK : VS _ _ _ = KK; simp [hF]; try subst hK; try (refine VS.keep [0, 1] ?_; generalize hK : VS _ _ _ = KK; simp; try subst hK))
        | (refine VS.region tabOk (id := 1) [] (by kernel_rfl) ?_; generalize hK : VS _ _ _ = KK; simp [hF]; try subst hK; try (refine VS.keep [0, 1, 5] ?_; generalize hK : VS _ _ _ = KK; simp; try subst hK))
        | (refine VS.region tabOk (id := 2) [] (by kernel_rfl) ?_; generalize hK : VS _ _ _ = KK; simp [hF]; try subst hK; try (refine VS.keep [0, 1, 5, 9] ?_; generalize hK : VS _ _ _ = KK; simp; try subst hK))
        | (refine VS.region tabOk (id := 3) [] (by kernel_rfl) ?_; generalize hK : VS _ _ _ = KK; simp [hF]; try subst hK; try (refine VS.keep [0, 1, 5] ?_; generalize hK : VS _ _ _ = KK; simp; try subst hK))
        | (refine VS.region tabOk (id := 4) [] (by kernel_rfl) ?_; generalize hK : VS _ _ _ = KK; simp [hF]; try subst hK; try (refine VS.keep [0, 1, 5, 17] ?_; generalize hK : VS _ _ _ = KK; simp; try subst hK))
        | (refine VS.region tabOk (id := 5) [] (by kernel_rfl) ?_; generalize hK : VS _ _ _ = KK; simp [hF]; try subst hK; try (refine VS.keep [4] ?_; generalize hK : VS _ _ _ = KK; simp; try subst hK))
        | (refine VS.region tabOk (id := 6) [] (by kernel_rfl) ?_; generalize hK : VS _ _ _ = KK; simp [hF]; try subst hK; try (refine VS.keep [4] ?_; generalize hK : VS _ _ _ = KK; simp; try subst hK))
        | (refine VS.cond ?_; generalize hK1 : VS _ _ _ = KK1; generalize hK2 : VS _ _ _ = KK2; simp [hF]; try subst hK1; try subst hK2)
      try refine VS.ret ?_
      repeat first | refine blockN_ret ?_ | refine loopN_ret ?_
      refine endK.of [4] [0] [] (by simp [hF]) (by simp [covers, mpre]) ?_
      simp [hF, retK]
      exact (posBy_at hlt (by simpa using he) fun j hj hj' => by simpa using hall j hj hj').symm
    · repeat first
        | refine VS.seq ?_
        | refine VS.skip ?_
        | refine VS.block ?_
        | refine VS.nil ?_
        | refine blockN_normal ?_
        | refine loopN_normal ?_
        | refine VS.exit ?_
        | refine blockN_hit ?_
        | refine blockN_miss (by decide) ?_
        | refine loopN_exit ?_
        | refine ⟨⟨by omega, by omega⟩, ?_⟩
        | (refine VS.region tabOk (id := 0) [] (by kernel_rfl) ?_; generalize hK : VS _ _ _ = KK; simp [hF]; try subst hK; try (refine VS.keep [0, 1] ?_; generalize hK : VS _ _ _ = KK; simp; try subst hK))
        | (refine VS.region tabOk (id := 1) [] (by kernel_rfl) ?_; generalize hK : VS _ _ _ = KK; simp [hF]; try subst hK; try (refine VS.keep [0, 1, 5] ?_; generalize hK : VS _ _ _ = KK; simp; try subst hK))
        | (refine VS.region tabOk (id := 2) [] (by kernel_rfl) ?_; generalize hK : VS _ _ _ = KK; simp [hF]; try subst hK; try (refine VS.keep [0, 1, 5, 9] ?_; generalize hK : VS _ _ _ = KK; simp; try subst hK))
        | (refine VS.region tabOk (id := 3) [] (by kernel_rfl) ?_; generalize hK : VS _ _ _ = KK; simp [hF]; try subst hK; try (refine VS.keep [0, 1, 5] ?_; generalize hK : VS _ _ _ = KK; simp; try subst hK))
        | (refine VS.region tabOk (id := 4) [] (by kernel_rfl) ?_; generalize hK : VS _ _ _ = KK; simp [hF]; try subst hK; try (refine VS.keep [0, 1, 5, 17] ?_; generalize hK : VS _ _ _ = KK; simp; try subst hK))
        | (refine VS.region tabOk (id := 5) [] (by kernel_rfl) ?_; generalize hK : VS _ _ _ = KK; simp [hF]; try subst hK; try (refine VS.keep [4] ?_; generalize hK : VS _ _ _ = KK; simp; try subst hK))
        | (refine VS.region tabOk (id := 6) [] (by kernel_rfl) ?_; generalize hK : VS _ _ _ = KK; simp [hF]; try subst hK; try (refine VS.keep [4] ?_; generalize hK : VS _ _ _ = KK; simp; try subst hK))
        | (refine VS.cond ?_; generalize hK1 : VS _ _ _ = KK1; generalize hK2 : VS _ _ _ = KK2; simp [hF]; try subst hK1; try subst hK2)
      refine nextK.of [0, 1, 5] [0] (m - 1) (by omega) (by simp [hF]) ?_
      refine ⟨i + 1, by omega, ?_, ?_⟩
      · intro j hj hj'
        rcases Nat.lt_or_ge j i with h | h
        · exact hall j h hj'
        · obtain rfl : j = i := by omega
          exact he
      · simp
        exact IntWalk.i64_in _ (by omega)
  · repeat first
      | refine VS.seq ?_
      | refine VS.skip ?_
      | refine VS.block ?_
      | refine VS.nil ?_
      | refine blockN_normal ?_
      | refine loopN_normal ?_
      | refine VS.exit ?_
      | refine blockN_hit ?_
      | refine blockN_miss (by decide) ?_
      | refine loopN_exit ?_
      | refine ⟨⟨by omega, by omega⟩, ?_⟩
      | (refine VS.region tabOk (id := 0) [] (by kernel_rfl) ?_; generalize hK : VS _ _ _ = KK; simp [hF]; try subst hK; try (refine VS.keep [0, 1] ?_; generalize hK : VS _ _ _ = KK; simp; try subst hK))
      | (refine VS.region tabOk (id := 1) [] (by kernel_rfl) ?_; generalize hK : VS _ _ _ = KK; simp [hF]; try subst hK; try (refine VS.keep [0, 1, 5] ?_; generalize hK : VS _ _ _ = KK; simp; try subst hK))
      | (refine VS.region tabOk (id := 2) [] (by kernel_rfl) ?_; generalize hK : VS _ _ _ = KK; simp [hF]; try subst hK; try (refine VS.keep [0, 1, 5, 9] ?_; generalize hK : VS _ _ _ = KK; simp; try subst hK))
      | (refine VS.region tabOk (id := 3) [] (by kernel_rfl) ?_; generalize hK : VS _ _ _ = KK; simp [hF]; try subst hK; try (refine VS.keep [0, 1, 5] ?_; generalize hK : VS _ _ _ = KK; simp; try subst hK))
      | (refine VS.region tabOk (id := 4) [] (by kernel_rfl) ?_; generalize hK : VS _ _ _ = KK; simp [hF]; try subst hK; try (refine VS.keep [0, 1, 5, 17] ?_; generalize hK : VS _ _ _ = KK; simp; try subst hK))
      | (refine VS.region tabOk (id := 5) [] (by kernel_rfl) ?_; generalize hK : VS _ _ _ = KK; simp [hF]; try subst hK; try (refine VS.keep [4] ?_; generalize hK : VS _ _ _ = KK; simp; try subst hK))
      | (refine VS.region tabOk (id := 6) [] (by kernel_rfl) ?_; generalize hK : VS _ _ _ = KK; simp [hF]; try subst hK; try (refine VS.keep [4] ?_; generalize hK : VS _ _ _ = KK; simp; try subst hK))
      | (refine VS.cond ?_; generalize hK1 : VS _ _ _ = KK1; generalize hK2 : VS _ _ _ = KK2; simp [hF]; try subst hK1; try subst hK2)
    try refine VS.ret ?_
    repeat first | refine blockN_ret ?_ | refine loopN_ret ?_
    refine endK.of [4] [0] [] (by simp [hF]) (by simp [covers, mpre]) ?_
    simp [hF, retK]
    exact (posBy_none fun j hj => by simpa using hall j (by omega) hj).symm

/- (*cabochon/cabochonref20.Space).Make -/
theorem rmake_ok (S : Sp) (hS : 0 < S.shapes.length) : Meets Try.prog 16 [dRSp S] (.cons (.ptr 0 [.d]) .nil)
    fun av X κ => av = two (makeOf S).2 ∧ X = [dRSp (makeOf S).1] ∧ κ = [(0, [.d])] := by
  have hr : realB S = true := by simpa [realB] using hS
  refine Meets.of_vs tabOk Try.func16 (body := ?_) ?_ (by kernel_rfl) Try.ntmps16 (rs := [.tmp 2, .tmp 3]) (by kernel_rfl) rfl (by simp [AV.len]) (by simp only [envOf]; exact rfl) ?_
  rotate_left
  · rfl
  intro w0 I0 F0 hF
  repeat first
    | refine VS.seq ?_
    | refine VS.skip ?_
    | refine VS.block ?_
    | refine VS.nil ?_
    | refine blockN_normal ?_
    | refine loopN_normal ?_
    | refine VS.exit ?_
    | refine blockN_hit ?_
    | refine blockN_miss (by decide) ?_
    | refine loopN_exit ?_
    | refine ⟨⟨by omega, by omega⟩, ?_⟩
    | (refine VS.region tabOk (id := 0) [] (by kernel_rfl) ?_; generalize hK : VS _ _ _ = KK; simp [hF]; try subst hK; try (refine VS.keep [0] ?_; generalize hK : VS _ _ _ = KK; simp; try subst hK))
    | (refine VS.region tabOk (id := 1) [] (by kernel_rfl) ?_; generalize hK : VS _ _ _ = KK; simp [hF]; try subst hK; try (refine VS.keep [0, 5] ?_; generalize hK : VS _ _ _ = KK; simp; try subst hK))
    | (refine VS.region tabOk (id := 2) [] (by kernel_rfl) ?_; generalize hK : VS _ _ _ = KK; simp [hF]; try subst hK; try (refine VS.keep [2, 3] ?_; generalize hK : VS _ _ _ = KK; simp; try subst hK))
    | (refine VS.region tabOk (id := 3) [] (by kernel_rfl) ?_; generalize hK : VS _ _ _ = KK; simp [hF]; try subst hK; try (refine VS.keep [0, 11] ?_; generalize hK : VS _ _ _ = KK; simp; try subst hK))
    | (refine VS.region tabOk (id := 4) [] (by kernel_rfl) ?_; generalize hK : VS _ _ _ = KK; simp [hF]; try subst hK; try (refine VS.keep [2, 3] ?_; generalize hK : VS _ _ _ = KK; simp; try subst hK))
    | (refine VS.region tabOk (id := 5) [] (by kernel_rfl) ?_; generalize hK : VS _ _ _ = KK; simp [hF]; try subst hK; try (refine VS.keep [0] ?_; generalize hK : VS _ _ _ = KK; simp; try subst hK))
    | (refine VS.region tabOk (id := 6) [] (by kernel_rfl) ?_; generalize hK : VS _ _ _ = KK; simp [hF]; try subst hK; try (refine VS.keep [2, 3] ?_; generalize hK : VS _ _ _ = KK; simp; try subst hK))
    | (refine VS.cond ?_; generalize hK1 : VS _ _ _ = KK1; generalize hK2 : VS _ _ _ = KK2; simp [hF]; try subst hK1; try subst hK2)
  refine (no_ok S).call [(0, [])] (by simp) (by simp [hF, dRSp, dBool]) (by simp [hF, dRSp, dBool]) (by simp [hF, dRSp, dBool]) ?_
  rintro av X κ ⟨rfl, rfl, rfl⟩
  generalize hK : VS _ _ _ = KK; simp [hF, dRSp, dBool]; try subst hK
  repeat first
    | refine VS.seq ?_
    | refine VS.skip ?_
    | refine VS.block ?_
    | refine VS.nil ?_
    | refine blockN_normal ?_
    | refine loopN_normal ?_
    | refine VS.exit ?_
    | refine blockN_hit ?_
    | refine blockN_miss (by decide) ?_
    | refine loopN_exit ?_
    | refine ⟨⟨by omega, by omega⟩, ?_⟩
    | (refine VS.region tabOk (id := 0) [] (by kernel_rfl) ?_; generalize hK : VS _ _ _ = KK; simp [hF, dRSp, dBool]; try subst hK; try (refine VS.keep [0] ?_; generalize hK : VS _ _ _ = KK; simp; try subst hK))
    | (refine VS.region tabOk (id := 1) [] (by kernel_rfl) ?_; generalize hK : VS _ _ _ = KK; simp [hF, dRSp, dBool]; try subst hK; try (refine VS.keep [0, 5] ?_; generalize hK : VS _ _ _ = KK; simp; try subst hK))
    | (refine VS.region tabOk (id := 2) [] (by kernel_rfl) ?_; generalize hK : VS _ _ _ = KK; simp [hF, dRSp, dBool]; try subst hK; try (refine VS.keep [2, 3] ?_; generalize hK : VS _ _ _ = KK; simp; try subst hK))
    | (refine VS.region tabOk (id := 3) [] (by kernel_rfl) ?_; generalize hK : VS _ _ _ = KK; simp [hF, dRSp, dBool]; try subst hK; try (refine VS.keep [0, 11] ?_; generalize hK : VS _ _ _ = KK; simp; try subst hK))
    | (refine VS.region tabOk (id := 4) [] (by kernel_rfl) ?_; generalize hK : VS _ _ _ = KK; simp [hF, dRSp, dBool]; try subst hK; try (refine VS.keep [2, 3] ?_; generalize hK : VS _ _ _ = KK; simp; try subst hK))
    | (refine VS.region tabOk (id := 5) [] (by kernel_rfl) ?_; generalize hK : VS _ _ _ = KK; simp [hF, dRSp, dBool]; try subst hK; try (refine VS.keep [0] ?_; generalize hK : VS _ _ _ = KK; simp; try subst hK))
    | (refine VS.region tabOk (id := 6) [] (by kernel_rfl) ?_; generalize hK : VS _ _ _ = KK; simp [hF, dRSp, dBool]; try subst hK; try (refine VS.keep [2, 3] ?_; generalize hK : VS _ _ _ = KK; simp; try subst hK))
    | (refine VS.cond ?_; generalize hK1 : VS _ _ _ = KK1; generalize hK2 : VS _ _ _ = KK2; simp [hF, dRSp, dBool]; try subst hK1; try subst hK2)
  refine ⟨fun h1 => ?_, fun h1 => ?_⟩
  · repeat first
      | refine VS.seq ?_
      | refine VS.skip ?_
      | refine VS.block ?_
      | refine VS.nil ?_
      | refine blockN_normal ?_
      | refine loopN_normal ?_
      | refine VS.exit ?_
      | refine blockN_hit ?_
      | refine blockN_miss (by decide) ?_
      | refine loopN_exit ?_
      | refine ⟨⟨by omega, by omega⟩, ?_⟩
      | (refine VS.region tabOk (id := 0) [] (by kernel_rfl) ?_; generalize hK : VS _ _ _ = KK; simp [hF]; try subst hK; try (refine VS.keep [0] ?_; generalize hK : VS _ _ _ = KK; simp; try subst hK))
      | (refine VS.region tabOk (id := 1) [] (by kernel_rfl) ?_; generalize hK : VS _ _ _ = KK; simp [hF]; try subst hK; try (refine VS.keep [0, 5] ?_; generalize hK : VS _ _ _ = KK; simp; try subst hK))
      | (refine VS.region tabOk (id := 2) [] (by kernel_rfl) ?_; generalize hK : VS _ _ _ = KK; simp [hF]; try subst hK; try (refine VS.keep [2, 3] ?_; generalize hK : VS _ _ _ = KK; simp; try subst hK))
      | (refine VS.region tabOk (id := 3) [] (by kernel_rfl) ?_; generalize hK : VS _ _ _ = KK; simp [hF]; try subst hK; try (refine VS.keep [0, 11] ?_; generalize hK : VS _ _ _ = KK; simp; try subst hK))
      | (refine VS.region tabOk (id := 4) [] (by kernel_rfl) ?_; generalize hK : VS _ _ _ = KK; simp [hF]; try subst hK; try (refine VS.keep [2, 3] ?_; generalize hK : VS _ _ _ = KK; simp; try subst hK))
      | (refine VS.region tabOk (id := 5) [] (by kernel_rfl) ?_; generalize hK : VS _ _ _ = KK; simp [hF]; try subst hK; try (refine VS.keep [0] ?_; generalize hK : VS _ _ _ = KK; simp; try subst hK))
      | (refine VS.region tabOk (id := 6) [] (by kernel_rfl) ?_; generalize hK : VS _ _ _ = KK; simp [hF]; try subst hK; try (refine VS.keep [2, 3] ?_; generalize hK : VS _ _ _ = KK; simp; try subst hK))
      | (refine VS.cond ?_; generalize hK1 : VS _ _ _ = KK1; generalize hK2 : VS _ _ _ = KK2; simp [hF]; try subst hK1; try subst hK2)
    have h1' : 100 ≤ S.objs.length := by omega
    try refine VS.ret ?_
    repeat first | refine blockN_ret ?_ | refine loopN_ret ?_
    refine endK.of [2, 3] [0] [(0, [.d])] (by simp [hF]) (by simp [covers, mpre]) ?_
    simp [hF, retK, dRSp, dBool, makeOf, hr, h1']
  · repeat first
      | refine VS.seq ?_
      | refine VS.skip ?_
      | refine VS.block ?_
      | refine VS.nil ?_
      | refine blockN_normal ?_
      | refine loopN_normal ?_
      | refine VS.exit ?_
      | refine blockN_hit ?_
      | refine blockN_miss (by decide) ?_
      | refine loopN_exit ?_
      | refine ⟨⟨by omega, by omega⟩, ?_⟩
      | (refine VS.region tabOk (id := 0) [] (by kernel_rfl) ?_; generalize hK : VS _ _ _ = KK; simp [hF]; try subst hK; try (refine VS.keep [0] ?_; generalize hK : VS _ _ _ = KK; simp; try subst hK))
      | (refine VS.region tabOk (id := 1) [] (by kernel_rfl) ?_; generalize hK : VS _ _ _ = KK; simp [hF]; try subst hK; try (refine VS.keep [0, 5] ?_; generalize hK : VS _ _ _ = KK; simp; try subst hK))
      | (refine VS.region tabOk (id := 2) [] (by kernel_rfl) ?_; generalize hK : VS _ _ _ = KK; simp [hF]; try subst hK; try (refine VS.keep [2, 3] ?_; generalize hK : VS _ _ _ = KK; simp; try subst hK))
      | (refine VS.region tabOk (id := 3) [] (by kernel_rfl) ?_; generalize hK : VS _ _ _ = KK; simp [hF]; try subst hK; try (refine VS.keep [0, 11] ?_; generalize hK : VS _ _ _ = KK; simp; try subst hK))
      | (refine VS.region tabOk (id := 4) [] (by kernel_rfl) ?_; generalize hK : VS _ _ _ = KK; simp [hF]; try subst hK; try (refine VS.keep [2, 3] ?_; generalize hK : VS _ _ _ = KK; simp; try subst hK))
      | (refine VS.region tabOk (id := 6) [] (by kernel_rfl) ?_; generalize hK : VS _ _ _ = KK; simp [hF]; try subst hK; try (refine VS.keep [2, 3] ?_; generalize hK : VS _ _ _ = KK; simp; try subst hK))
      | (refine VS.cond ?_; generalize hK1 : VS _ _ _ = KK1; generalize hK2 : VS _ _ _ = KK2; simp [hF]; try subst hK1; try subst hK2)
    refine VS.lift 0 [.d, .f 2] (by simp [hF]) (by simp [hF]) (by simp [isNode]) (by simp [hF]) ?_
    generalize hK : VS _ _ _ = KK; simp [hF, St.lift, AV.lift, liftPl, stripP, nodeAV]; try subst hK
    have hpush := dRObs_push S.objs ⟨0, [], [], false⟩
    simp [dStrs_nil, dInts_nil] at hpush
    repeat first
      | refine VS.seq ?_
      | refine VS.skip ?_
      | refine VS.block ?_
      | refine VS.nil ?_
      | refine blockN_normal ?_
      | refine loopN_normal ?_
      | refine VS.exit ?_
      | refine blockN_hit ?_
      | refine blockN_miss (by decide) ?_
      | refine loopN_exit ?_
      | refine ⟨⟨by omega, by omega⟩, ?_⟩
      | (refine VS.region tabOk (id := 0) [] (by kernel_rfl) ?_; generalize hK : VS _ _ _ = KK; simp [hF, dRSp, dBool, hpush]; try subst hK; try (refine VS.keep [0] ?_; generalize hK : VS _ _ _ = KK; simp; try subst hK))
      | (refine VS.region tabOk (id := 1) [] (by kernel_rfl) ?_; generalize hK : VS _ _ _ = KK; simp [hF, dRSp, dBool, hpush]; try subst hK; try (refine VS.keep [0, 5] ?_; generalize hK : VS _ _ _ = KK; simp; try subst hK))
      | (refine VS.region tabOk (id := 2) [] (by kernel_rfl) ?_; generalize hK : VS _ _ _ = KK; simp [hF, dRSp, dBool, hpush]; try subst hK; try (refine VS.keep [2, 3] ?_; generalize hK : VS _ _ _ = KK; simp; try subst hK))
      | (refine VS.region tabOk (id := 3) [] (by kernel_rfl) ?_; generalize hK : VS _ _ _ = KK; simp [hF, dRSp, dBool, hpush]; try subst hK; try (refine VS.keep [0, 11] ?_; generalize hK : VS _ _ _ = KK; simp; try subst hK))
      | (refine VS.region tabOk (id := 4) [] (by kernel_rfl) ?_; generalize hK : VS _ _ _ = KK; simp [hF, dRSp, dBool, hpush]; try subst hK; try (refine VS.keep [2, 3] ?_; generalize hK : VS _ _ _ = KK; simp; try subst hK))
      | (refine VS.region tabOk (id := 5) [] (by kernel_rfl) ?_; generalize hK : VS _ _ _ = KK; simp [hF, dRSp, dBool, hpush]; try subst hK; try (refine VS.keep [0] ?_; generalize hK : VS _ _ _ = KK; simp; try subst hK))
      | (refine VS.region tabOk (id := 6) [] (by kernel_rfl) ?_; generalize hK : VS _ _ _ = KK; simp [hF, dRSp, dBool, hpush]; try subst hK; try (refine VS.keep [2, 3] ?_; generalize hK : VS _ _ _ = KK; simp; try subst hK))
      | (refine VS.cond ?_; generalize hK1 : VS _ _ _ = KK1; generalize hK2 : VS _ _ _ = KK2; simp [hF, dRSp, dBool, hpush]; try subst hK1; try subst hK2)
    have h1' : ¬ 100 ≤ S.objs.length := by omega
    have hw : IntKind.i64.wrap (S.objs.length : Int) = S.objs.length := IntWalk.i64_in _ (by omega)
    try refine VS.ret ?_
    repeat first | refine blockN_ret ?_ | refine loopN_ret ?_
    refine endK.of [2, 3] [0] [(0, [.d])] (by simp [hF]) (by simp [covers, mpre]) ?_
    simp [hF, retK, dRSp, dBool, makeOf, hr, h1', hw]

/- (*cabochon/cabochonref20.Space).Shape -/
theorem rshape_ok (S : Sp) (hS : 0 < S.shapes.length) (o : Int) : Meets Try.prog 20 [dRSp S] (.cons (.ptr 0 [.d]) (.cons (avInt o) .nil))
    fun av X κ => av = two (shapeOf S o) ∧ X = [dRSp S] ∧ κ = [] := by
  refine Meets.of_vs tabOk Try.func20 (body := ?_) ?_ (by kernel_rfl) Try.ntmps20 (rs := [.tmp 4, .tmp 5]) (by kernel_rfl) rfl (by simp [AV.len]) (by simp only [envOf]; exact rfl) ?_
  rotate_left
  · rfl
  intro w0 I0 F0 hF
  repeat first
    | refine VS.seq ?_
    | refine VS.skip ?_
    | refine VS.block ?_
    | refine VS.nil ?_
    | refine blockN_normal ?_
    | refine loopN_normal ?_
    | refine VS.exit ?_
    | refine blockN_hit ?_
    | refine blockN_miss (by decide) ?_
    | refine loopN_exit ?_
    | refine ⟨⟨by omega, by omega⟩, ?_⟩
    | (refine VS.region tabOk (id := 0) [] (by kernel_rfl) ?_; generalize hK : VS _ _ _ = KK; simp [hF]; try subst hK; try (refine VS.keep [0, 1] ?_; generalize hK : VS _ _ _ = KK; simp; try subst hK))
    | (refine VS.region tabOk (id := 1) [] (by kernel_rfl) ?_; generalize hK : VS _ _ _ = KK; simp [hF]; try subst hK; try (refine VS.keep [0, 1, 9] ?_; generalize hK : VS _ _ _ = KK; simp; try subst hK))
    | (refine VS.region tabOk (id := 2) [] (by kernel_rfl) ?_; generalize hK : VS _ _ _ = KK; simp [hF]; try subst hK; try (refine VS.keep [4, 5] ?_; generalize hK : VS _ _ _ = KK; simp; try subst hK))
    | (refine VS.region tabOk (id := 3) [] (by kernel_rfl) ?_; generalize hK : VS _ _ _ = KK; simp [hF]; try subst hK; try (refine VS.keep [4, 5] ?_; generalize hK : VS _ _ _ = KK; simp; try subst hK))
    | (refine VS.cond ?_; generalize hK1 : VS _ _ _ = KK1; generalize hK2 : VS _ _ _ = KK2; simp [hF]; try subst hK1; try subst hK2)
  refine (object_ok S hS o).call [(0, [])] (by simp) (by simp [hF, dRSp, dBool]) (by simp [hF, dRSp, dBool]) (by simp [hF, dRSp, dBool]) ?_
  rintro av X κ ⟨rfl, rfl, rfl⟩
  generalize hK : VS _ _ _ = KK; simp [hF, dRSp, dBool]; try subst hK
  repeat first
    | refine VS.seq ?_
    | refine VS.skip ?_
    | refine VS.block ?_
    | refine VS.nil ?_
    | refine blockN_normal ?_
    | refine loopN_normal ?_
    | refine VS.exit ?_
    | refine blockN_hit ?_
    | refine blockN_miss (by decide) ?_
    | refine loopN_exit ?_
    | refine ⟨⟨by omega, by omega⟩, ?_⟩
    | (refine VS.region tabOk (id := 0) [] (by kernel_rfl) ?_; generalize hK : VS _ _ _ = KK; simp [hF]; try subst hK; try (refine VS.keep [0, 1] ?_; generalize hK : VS _ _ _ = KK; simp; try subst hK))
    | (refine VS.region tabOk (id := 1) [] (by kernel_rfl) ?_; generalize hK : VS _ _ _ = KK; simp [hF]; try subst hK; try (refine VS.keep [0, 1, 9] ?_; generalize hK : VS _ _ _ = KK; simp; try subst hK))
    | (refine VS.region tabOk (id := 2) [] (by kernel_rfl) ?_; generalize hK : VS _ _ _ = KK; simp [hF]; try subst hK; try (refine VS.keep [4, 5] ?_; generalize hK : VS _ _ _ = KK; simp; try subst hK))
    | (refine VS.region tabOk (id := 3) [] (by kernel_rfl) ?_; generalize hK : VS _ _ _ = KK; simp [hF]; try subst hK; try (refine VS.keep [4, 5] ?_; generalize hK : VS _ _ _ = KK; simp; try subst hK))
    | (refine VS.cond ?_; generalize hK1 : VS _ _ _ = KK1; generalize hK2 : VS _ _ _ = KK2; simp [hF]; try subst hK1; try subst hK2)
  refine ⟨fun h => ?_, fun h => ?_⟩
  · repeat first
      | refine VS.seq ?_
      | refine VS.skip ?_
      | refine VS.block ?_
      | refine VS.nil ?_
      | refine blockN_normal ?_
      | refine loopN_normal ?_
      | refine VS.exit ?_
      | refine blockN_hit ?_
      | refine blockN_miss (by decide) ?_
      | refine loopN_exit ?_
      | refine ⟨⟨by omega, by omega⟩, ?_⟩
      | (refine VS.region tabOk (id := 0) [] (by kernel_rfl) ?_; generalize hK : VS _ _ _ = KK; simp [hF]; try subst hK; try (refine VS.keep [0, 1] ?_; generalize hK : VS _ _ _ = KK; simp; try subst hK))
      | (refine VS.region tabOk (id := 1) [] (by kernel_rfl) ?_; generalize hK : VS _ _ _ = KK; simp [hF]; try subst hK; try (refine VS.keep [0, 1, 9] ?_; generalize hK : VS _ _ _ = KK; simp; try subst hK))
      | (refine VS.region tabOk (id := 2) [] (by kernel_rfl) ?_; generalize hK : VS _ _ _ = KK; simp [hF]; try subst hK; try (refine VS.keep [4, 5] ?_; generalize hK : VS _ _ _ = KK; simp; try subst hK))
      | (refine VS.region tabOk (id := 3) [] (by kernel_rfl) ?_; generalize hK : VS _ _ _ = KK; simp [hF]; try subst hK; try (refine VS.keep [4, 5] ?_; generalize hK : VS _ _ _ = KK; simp; try subst hK))
      | (refine VS.cond ?_; generalize hK1 : VS _ _ _ = KK1; generalize hK2 : VS _ _ _ = KK2; simp [hF]; try subst hK1; try subst hK2)
    try refine VS.ret ?_
    repeat first | refine blockN_ret ?_ | refine loopN_ret ?_
    refine endK.of [4, 5] [0] [] (by simp [hF]) (by simp [covers, mpre]) ?_
    simp [hF, retK, dRSp, dBool, shapeOf, h]
  · obtain ⟨j, rfl, hj, h0⟩ := hasB_true h
    repeat first
      | refine VS.seq ?_
      | refine VS.skip ?_
      | refine VS.block ?_
      | refine VS.nil ?_
      | refine blockN_normal ?_
      | refine loopN_normal ?_
      | refine VS.exit ?_
      | refine blockN_hit ?_
      | refine blockN_miss (by decide) ?_
      | refine loopN_exit ?_
      | refine ⟨⟨by omega, by omega⟩, ?_⟩
      | (refine VS.region tabOk (id := 0) [] (by kernel_rfl) ?_; generalize hK : VS _ _ _ = KK; simp [hF, dRSp, dBool, dRObs_at hj, hj, h]; try subst hK; try (refine VS.keep [0, 1] ?_; generalize hK : VS _ _ _ = KK; simp; try subst hK))
      | (refine VS.region tabOk (id := 1) [] (by kernel_rfl) ?_; generalize hK : VS _ _ _ = KK; simp [hF, dRSp, dBool, dRObs_at hj, hj, h]; try subst hK; try (refine VS.keep [0, 1, 9] ?_; generalize hK : VS _ _ _ = KK; simp; try subst hK))
      | (refine VS.region tabOk (id := 2) [] (by kernel_rfl) ?_; generalize hK : VS _ _ _ = KK; simp [hF, dRSp, dBool, dRObs_at hj, hj, h]; try subst hK; try (refine VS.keep [4, 5] ?_; generalize hK : VS _ _ _ = KK; simp; try subst hK))
      | (refine VS.region tabOk (id := 3) [] (by kernel_rfl) ?_; generalize hK : VS _ _ _ = KK; simp [hF, dRSp, dBool, dRObs_at hj, hj, h]; try subst hK; try (refine VS.keep [4, 5] ?_; generalize hK : VS _ _ _ = KK; simp; try subst hK))
      | (refine VS.cond ?_; generalize hK1 : VS _ _ _ = KK1; generalize hK2 : VS _ _ _ = KK2; simp [hF, dRSp, dBool, dRObs_at hj, hj, h]; try subst hK1; try subst hK2)
    try refine VS.ret ?_
    repeat first | refine blockN_ret ?_ | refine loopN_ret ?_
    refine endK.of [4, 5] [0] [] (by simp [hF]) (by simp [covers, mpre]) ?_
    simp [hF, retK, dRSp, dBool, shapeOf, h, obAt_eq hj]

/- (*cabochon/cabochonref20.Space).Shapes -/
theorem rshapes_ok (S : Sp) : Meets Try.prog 22 [dRSp S] (.cons (.ptr 0 [.d]) .nil)
    fun av X κ => av = avInt (shapesOf S) ∧ X = [dRSp S] ∧ κ = [] := by
  refine Meets.of_vs tabOk Try.func22 (body := ?_) ?_ (by kernel_rfl) Try.ntmps22 (rs := [.tmp 2]) (by kernel_rfl) rfl (by simp [AV.len]) (by simp only [envOf]; exact rfl) ?_
  rotate_left
  · rfl
  intro w0 I0 F0 hF
  repeat first
    | refine VS.seq ?_
    | refine VS.skip ?_
    | refine VS.block ?_
    | refine VS.nil ?_
    | refine blockN_normal ?_
    | refine loopN_normal ?_
    | refine VS.exit ?_
    | refine blockN_hit ?_
    | refine blockN_miss (by decide) ?_
    | refine loopN_exit ?_
    | refine ⟨⟨by omega, by omega⟩, ?_⟩
    | (refine VS.region tabOk (id := 0) [] (by kernel_rfl) ?_; generalize hK : VS _ _ _ = KK; simp [hF]; try subst hK; try (refine VS.keep [0] ?_; generalize hK : VS _ _ _ = KK; simp; try subst hK))
    | (refine VS.region tabOk (id := 1) [] (by kernel_rfl) ?_; generalize hK : VS _ _ _ = KK; simp [hF]; try subst hK; try (refine VS.keep [0, 4] ?_; generalize hK : VS _ _ _ = KK; simp; try subst hK))
    | (refine VS.region tabOk (id := 2) [] (by kernel_rfl) ?_; generalize hK : VS _ _ _ = KK; simp [hF]; try subst hK; try (refine VS.keep [2] ?_; generalize hK : VS _ _ _ = KK; simp; try subst hK))
    | (refine VS.region tabOk (id := 3) [] (by kernel_rfl) ?_; generalize hK : VS _ _ _ = KK; simp [hF]; try subst hK; try (refine VS.keep [2] ?_; generalize hK : VS _ _ _ = KK; simp; try subst hK))
    | (refine VS.cond ?_; generalize hK1 : VS _ _ _ = KK1; generalize hK2 : VS _ _ _ = KK2; simp [hF]; try subst hK1; try subst hK2)
  refine (no_ok S).call [(0, [])] (by simp) (by simp [hF, dRSp, dBool]) (by simp [hF, dRSp, dBool]) (by simp [hF, dRSp, dBool]) ?_
  rintro av X κ ⟨rfl, rfl, rfl⟩
  generalize hK : VS _ _ _ = KK; simp [hF, dRSp, dBool]; try subst hK
  repeat first
    | refine VS.seq ?_
    | refine VS.skip ?_
    | refine VS.block ?_
    | refine VS.nil ?_
    | refine blockN_normal ?_
    | refine loopN_normal ?_
    | refine VS.exit ?_
    | refine blockN_hit ?_
    | refine blockN_miss (by decide) ?_
    | refine loopN_exit ?_
    | refine ⟨⟨by omega, by omega⟩, ?_⟩
    | (refine VS.region tabOk (id := 0) [] (by kernel_rfl) ?_; generalize hK : VS _ _ _ = KK; simp [hF, dRSp, dBool]; try subst hK; try (refine VS.keep [0] ?_; generalize hK : VS _ _ _ = KK; simp; try subst hK))
    | (refine VS.region tabOk (id := 1) [] (by kernel_rfl) ?_; generalize hK : VS _ _ _ = KK; simp [hF, dRSp, dBool]; try subst hK; try (refine VS.keep [0, 4] ?_; generalize hK : VS _ _ _ = KK; simp; try subst hK))
    | (refine VS.region tabOk (id := 2) [] (by kernel_rfl) ?_; generalize hK : VS _ _ _ = KK; simp [hF, dRSp, dBool]; try subst hK; try (refine VS.keep [2] ?_; generalize hK : VS _ _ _ = KK; simp; try subst hK))
    | (refine VS.region tabOk (id := 3) [] (by kernel_rfl) ?_; generalize hK : VS _ _ _ = KK; simp [hF, dRSp, dBool]; try subst hK; try (refine VS.keep [2] ?_; generalize hK : VS _ _ _ = KK; simp; try subst hK))
    | (refine VS.cond ?_; generalize hK1 : VS _ _ _ = KK1; generalize hK2 : VS _ _ _ = KK2; simp [hF, dRSp, dBool]; try subst hK1; try subst hK2)
  try refine VS.ret ?_
  repeat first | refine blockN_ret ?_ | refine loopN_ret ?_
  refine endK.of [2] [0] [] (by simp [hF]) (by simp [covers, mpre]) ?_
  simp [hF, retK, dRSp, dBool, shapesOf]
end Go.Proofs.Ythcndkpkkaphoaa

/- The reference's adding of a name. -/
namespace Go.Proofs.Ythcndkpkkaphoaa
set_option linter.all false
open Go.Vc Go.Proofs
set_option linter.unusedSimpArgs false
set_option maxRecDepth 100000
set_option maxHeartbeats 4000000
attribute [local irreducible] CallW EqK

/-- The shape below one with a name more; it is made where there is room. -/
def rbelow (l : List Sh) (k : Nat) (n : ByteArray) : List Sh × Int :=
  if 0 ≤ belowOf l k n then (l, belowOf l k n)
  else if 200 ≤ l.length then (l, -1)
  else (l ++ [⟨(k : Int), (l.getD k ⟨0, []⟩).names ++ [n]⟩], (l.length : Int))

/- (*cabochon/cabochonref20.Space).below -/
theorem rbelow_ok (S : Sp) (hS : ShOk S.shapes) (k : Nat) (hk : k < S.shapes.length) (n : ByteArray) : Meets Try.prog 67 [dRSp S] (.cons (.ptr 0 [.d]) (.cons (avInt k) (.cons (.val (.string n)) .nil)))
    fun av X κ => av = avInt (rbelow S.shapes k n).2 ∧ X = [dRSp ⟨(rbelow S.shapes k n).1, S.objs⟩] ∧ κ = [(0, [.d, .f 1])] := by
  refine Meets.of_vs tabOk Try.func67 (body := ?_) ?_ (by kernel_rfl) Try.ntmps67 (rs := [.tmp 6]) (by kernel_rfl) rfl (by simp [AV.len]) (by simp only [envOf]; exact rfl) ?_
  rotate_left
  · rfl
  intro w0 I0 F0 hF
  repeat first
    | refine VS.seq ?_
    | refine VS.skip ?_
    | refine VS.block ?_
    | refine VS.nil ?_
    | refine blockN_normal ?_
    | refine loopN_normal ?_
    | refine VS.exit ?_
    | refine blockN_hit ?_
    | refine blockN_miss (by decide) ?_
    | refine loopN_exit ?_
    | refine ⟨⟨by omega, by omega⟩, ?_⟩
    | (refine VS.region tabOk (id := 0) [] (by kernel_rfl) ?_; generalize hK : VS _ _ _ = KK; simp [hF]; try subst hK; try (refine VS.keep [0, 1, 2] ?_; generalize hK : VS _ _ _ = KK; simp; try subst hK))
    | (refine VS.region tabOk (id := 1) [] (by kernel_rfl) ?_; generalize hK : VS _ _ _ = KK; simp [hF]; try subst hK; try (refine VS.keep [0, 1, 2, 7] ?_; generalize hK : VS _ _ _ = KK; simp; try subst hK))
    | (refine VS.region tabOk (id := 2) [] (by kernel_rfl) ?_; generalize hK : VS _ _ _ = KK; simp [hF]; try subst hK; try (refine VS.keep [0, 1, 2, 7, 14] ?_; generalize hK : VS _ _ _ = KK; simp; try subst hK))
    | (refine VS.region tabOk (id := 3) [] (by kernel_rfl) ?_; generalize hK : VS _ _ _ = KK; simp [hF]; try subst hK; try (refine VS.keep [0, 1, 2, 7] ?_; generalize hK : VS _ _ _ = KK; simp; try subst hK))
    | (refine VS.drawn tabOk mixedOk (id := 4) [(10, 27)] [⟨0, 1, 131072, 5⟩, ⟨1, 131072, 262144, 5⟩, ⟨2, 262144, 524288, 5⟩, ⟨4, 524288, 1048576, 6⟩, ⟨0, 128, 2097152, 5⟩, ⟨24, 3145728, 4194304, 5⟩, ⟨32, 4194304, 8388608, 5⟩, ⟨64, 8388608, 16777216, 6⟩, ⟨0, 2, 33554432, 5⟩, ⟨384, 50331648, 67108864, 5⟩, ⟨512, 67108864, 134217728, 5⟩, ⟨1024, 134217729, 268435456, 5⟩, ⟨3072, 402653184, 536870912, 5⟩, ⟨5120, 671088640, 1073741824, 5⟩, ⟨9216, 1207959552, 2147483648, 6⟩, ⟨1024, 134217856, 4294967296, 5⟩, ⟨50176, 6576668672, 8589934592, 5⟩, ⟨66560, 8724152320, 17179869184, 5⟩, ⟨132096, 17314086912, 34359738368, 6⟩, ⟨1024, 134217729, 68719476736, 5⟩, ⟨525312, 68853694464, 137438953472, 5⟩, ⟨1049600, 137573171200, 274877906944, 5⟩, ⟨2098176, 275012124672, 549755813888, 6⟩, ⟨1024, 134217856, 1099511627776, 5⟩, ⟨12583936, 1649401659392, 2199023255552, 5⟩, ⟨16778240, 2199157473280, 4398046511104, 5⟩, ⟨33555456, 4398180728832, 8796093022208, 6⟩, ⟨67109888, 8796227239936, 17592186044416, 5⟩, ⟨134218752, 17592320262144, 35184372088832, 5⟩, ⟨268698624, 35218866044928, 70368744177664, 5⟩, ⟨536871936, 70368878395392, 140737488355328, 6⟩, ⟨1024, 134217732, 281474976710656, 5⟩, ⟨3221226496, 422212599283712, 562949953421312, 5⟩, ⟨4294968320, 562950087639040, 1125899906842624, 5⟩] (.take 0 (.take 1 (.take 2 (.take 3 (.take 4 (.take 5 (.take 6 (.take 7 (.take 8 (.take 9 (.take 10 (.take 11 (.take 12 (.take 13 (.take 14 (.take 15 (.take 16 (.take 17 (.take 18 (.take 19 (.take 20 (.take 21 (.take 22 (.take 23 (.take 24 (.take 25 (.take 26 (.take 27 (.take 28 (.take 29 (.take 30 (.take 31 (.take 32 (.take 33 (.done))))))))))))))))))))))))))))))))))) (.run [0, 1, 2, 3, 4, 5, 6, 7, 8, 9, 10, 11, 12, 13, 14, 15, 16, 17, 18, 19, 20, 21, 22, 23, 24, 25, 26, 27, 28, 29, 30, 31, 32, 33] (.done)) (by kernel_rfl) (by kernel_rfl) (by kernel_rfl) ?_; generalize hK : VS _ _ _ = KK; simp only [opsVc_run, opsVc_both, opsVc_done, opsVc_yes, pick_cons, pick_nil, List.getElem?_cons_zero, List.getElem?_cons_succ]; simp [hF]; try subst hK; try (refine VS.keep [0, 1, 2, 7, 50] ?_; generalize hK : VS _ _ _ = KK; simp; try subst hK))
    | (refine VS.region tabOk (id := 5) [] (by kernel_rfl) ?_; generalize hK : VS _ _ _ = KK; simp [hF]; try subst hK; try (refine VS.keep [6] ?_; generalize hK : VS _ _ _ = KK; simp; try subst hK))
    | (refine VS.region tabOk (id := 6) [] (by kernel_rfl) ?_; generalize hK : VS _ _ _ = KK; simp [hF]; try subst hK; try (refine VS.keep [0, 1, 2, 57] ?_; generalize hK : VS _ _ _ = KK; simp; try subst hK))
    | (refine VS.region tabOk (id := 7) [] (by kernel_rfl) ?_; generalize hK : VS _ _ _ = KK; simp [hF]; try subst hK; try (refine VS.keep [6] ?_; generalize hK : VS _ _ _ = KK; simp; try subst hK))
    | (refine VS.drawn tabOk mixedOk (id := 8) [] [⟨0, 1, 288230376151711744, 5⟩, ⟨0, 1, 576460752303423488, 5⟩, ⟨2, 576460752303423488, 1152921504606846976, 5⟩, ⟨4, 1152921504606846976, 2305843009213693952, 5⟩, ⟨8, 2305843009213693952, 4611686018427387904, 6⟩, ⟨0, 2, 9223372036854775808, 5⟩, ⟨0, 0, 18446744073709551616, 4⟩, ⟨0, 1, 36893488147419103232, 5⟩, ⟨128, 36893488147419103232, 73786976294838206464, 5⟩, ⟨256, 73786976294838206464, 147573952589676412928, 5⟩, ⟨512, 147573952589676412928, 295147905179352825856, 6⟩, ⟨0, 2, 590295810358705651712, 5⟩, ⟨3072, 885443715538058477568, 1180591620717411303424, 5⟩, ⟨4096, 1180591620717411303424, 2361183241434822606848, 5⟩, ⟨8192, 2361183241434822606848, 4722366482869645213696, 6⟩, ⟨16448, 4740813226943354765312, 9444732965739290427392, 0⟩, ⟨0, 4, 18889465931478580854784, 5⟩, ⟨65536, 18889465931478580854784, 37778931862957161709568, 4⟩, ⟨163840, 47223664828696452136960, 75557863725914323419136, 0⟩, ⟨262176, 75567087097951178194944, 151115727451828646838272, 5⟩, ⟨524288, 151115727451828646838272, 302231454903657293676544, 4⟩, ⟨1310736, 302236066589675721064448, 604462909807314587353088, 0⟩, ⟨4194303, 288230376151711744, 1208925819614629174706176, 5⟩, ⟨8388607, 1208925819614629174706176, 2417851639229258349412352, 5⟩, ⟨12582911, 3022314549036572936765440, 0, 0⟩] (.take 0 (.take 1 (.take 2 (.take 3 (.take 5 (.take 7 (.take 8 (.take 9 (.take 10 (.take 11 (.take 12 (.take 13 (.take 14 (.take 16 (.fork (.alt 4 (.fork (.alt 6 (.fork (.alt 15 (.fork (.alt 17 (.fork (.alt 18 (.take 19 (.fork (.alt 20 (.fork (.alt 21 (.take 22 (.take 23 (.fork (.alt 24 (.done) (.nil))))) (.nil))) (.nil)))) (.nil))) (.nil))) (.alt 17 (.fork (.alt 15 (.fork (.alt 18 (.take 19 (.fork (.alt 20 (.fork (.alt 21 (.take 22 (.take 23 (.fork (.alt 24 (.done) (.nil))))) (.nil))) (.nil)))) (.nil))) (.nil))) (.nil)))) (.alt 17 (.fork (.alt 6 (.fork (.alt 15 (.fork (.alt 18 (.take 19 (.fork (.alt 20 (.fork (.alt 21 (.take 22 (.take 23 (.fork (.alt 24 (.done) (.nil))))) (.nil))) (.nil)))) (.nil))) (.nil))) (.nil))) (.nil)))) (.alt 6 (.fork (.alt 4 (.fork (.alt 15 (.fork (.alt 17 (.fork (.alt 18 (.take 19 (.fork (.alt 20 (.fork (.alt 21 (.take 22 (.take 23 (.fork (.alt 24 (.done) (.nil))))) (.nil))) (.nil)))) (.nil))) (.nil))) (.alt 17 (.fork (.alt 15 (.fork (.alt 18 (.take 19 (.fork (.alt 20 (.fork (.alt 21 (.take 22 (.take 23 (.fork (.alt 24 (.done) (.nil))))) (.nil))) (.nil)))) (.nil))) (.nil))) (.nil)))) (.alt 15 (.fork (.alt 4 (.fork (.alt 17 (.fork (.alt 18 (.take 19 (.fork (.alt 20 (.fork (.alt 21 (.take 22 (.take 23 (.fork (.alt 24 (.done) (.nil))))) (.nil))) (.nil)))) (.nil))) (.nil))) (.alt 17 (.fork (.alt 4 (.fork (.alt 18 (.take 19 (.fork (.alt 20 (.fork (.alt 21 (.take 22 (.take 23 (.fork (.alt 24 (.done) (.nil))))) (.nil))) (.nil)))) (.nil))) (.alt 18 (.take 4 (.take 19 (.fork (.alt 20 (.fork (.alt 21 (.take 22 (.take 23 (.fork (.alt 24 (.done) (.nil))))) (.nil))) (.nil))))) (.nil)))) (.nil)))) (.alt 17 (.fork (.alt 4 (.fork (.alt 15 (.fork (.alt 18 (.take 19 (.fork (.alt 20 (.fork (.alt 21 (.take 22 (.take 23 (.fork (.alt 24 (.done) (.nil))))) (.nil))) (.nil)))) (.nil))) (.nil))) (.alt 15 (.fork (.alt 4 (.fork (.alt 18 (.take 19 (.fork (.alt 20 (.fork (.alt 21 (.take 22 (.take 23 (.fork (.alt 24 (.done) (.nil))))) (.nil))) (.nil)))) (.nil))) (.alt 18 (.take 4 (.take 19 (.fork (.alt 20 (.fork (.alt 21 (.take 22 (.take 23 (.fork (.alt 24 (.done) (.nil))))) (.nil))) (.nil))))) (.nil)))) (.nil)))) (.nil))))) (.alt 17 (.fork (.alt 4 (.fork (.alt 6 (.fork (.alt 15 (.fork (.alt 18 (.take 19 (.fork (.alt 20 (.fork (.alt 21 (.take 22 (.take 23 (.fork (.alt 24 (.done) (.nil))))) (.nil))) (.nil)))) (.nil))) (.nil))) (.nil))) (.alt 6 (.fork (.alt 4 (.fork (.alt 15 (.fork (.alt 18 (.take 19 (.fork (.alt 20 (.fork (.alt 21 (.take 22 (.take 23 (.fork (.alt 24 (.done) (.nil))))) (.nil))) (.nil)))) (.nil))) (.nil))) (.alt 15 (.fork (.alt 4 (.fork (.alt 18 (.take 19 (.fork (.alt 20 (.fork (.alt 21 (.take 22 (.take 23 (.fork (.alt 24 (.done) (.nil))))) (.nil))) (.nil)))) (.nil))) (.alt 18 (.take 4 (.take 19 (.fork (.alt 20 (.fork (.alt 21 (.take 22 (.take 23 (.fork (.alt 24 (.done) (.nil))))) (.nil))) (.nil))))) (.nil)))) (.nil)))) (.nil)))) (.nil))))))))))))))))))) (.run [0, 1, 2, 3, 5, 7, 8, 9, 10, 11, 12, 13, 14, 16] (.both (.run [4] (.both (.run [6] (.both (.run [15, 17, 18, 19, 20, 21, 22, 23, 24] (.done)) (.run [17, 15, 18, 19, 20, 21, 22, 23, 24] (.done)))) (.run [17, 6, 15, 18, 19, 20, 21, 22, 23, 24] (.done)))) (.both (.run [6] (.both (.run [4] (.both (.run [15, 17, 18, 19, 20, 21, 22, 23, 24] (.done)) (.run [17, 15, 18, 19, 20, 21, 22, 23, 24] (.done)))) (.both (.run [15] (.both (.run [4, 17, 18, 19, 20, 21, 22, 23, 24] (.done)) (.run [17] (.both (.run [4, 18, 19, 20, 21, 22, 23, 24] (.done)) (.run [18, 4, 19, 20, 21, 22, 23, 24] (.done)))))) (.run [17] (.both (.run [4, 15, 18, 19, 20, 21, 22, 23, 24] (.done)) (.run [15] (.both (.run [4, 18, 19, 20, 21, 22, 23, 24] (.done)) (.run [18, 4, 19, 20, 21, 22, 23, 24] (.done))))))))) (.run [17] (.both (.run [4, 6, 15, 18, 19, 20, 21, 22, 23, 24] (.done)) (.run [6] (.both (.run [4, 15, 18, 19, 20, 21, 22, 23, 24] (.done)) (.run [15] (.both (.run [4, 18, 19, 20, 21, 22, 23, 24] (.done)) (.run [18, 4, 19, 20, 21, 22, 23, 24] (.done))))))))))) (by kernel_rfl) (by kernel_rfl) (by kernel_rfl) ?_; generalize hK : VS _ _ _ = KK; simp only [opsVc_run, opsVc_both, opsVc_done, opsVc_yes, pick_cons, pick_nil, List.getElem?_cons_zero, List.getElem?_cons_succ]; simp [hF]; try subst hK; try (refine VS.keep [0] ?_; generalize hK : VS _ _ _ = KK; simp; try subst hK))
    | (refine VS.region tabOk (id := 9) [] (by kernel_rfl) ?_; generalize hK : VS _ _ _ = KK; simp [hF]; try subst hK; try (refine VS.keep [6] ?_; generalize hK : VS _ _ _ = KK; simp; try subst hK))
    | (refine VS.cond ?_; generalize hK1 : VS _ _ _ = KK1; generalize hK2 : VS _ _ _ = KK2; simp [hF]; try subst hK1; try subst hK2)
  have hns := hS.ns
  refine VS.rounds (fun m st => ∃ (i : Nat), i + m = S.shapes.length ∧ (∀ j, j < i → ∀ hj : j < S.shapes.length, (decide (S.shapes[j].parent = (k : Int)) && decide (lastName S.shapes[j].names = n)) = false) ∧
    st = ⟨[(0, .ptr 0 [.d]), (1, avInt k), (2, .val (.string n)), (7, avInt i)], [dRSp S], [], []⟩) ⟨S.shapes.length, 0, by simp, by simp, rfl⟩ ?_
  rintro m st ⟨i, hi, hall, rfl⟩
  repeat first
    | refine VS.seq ?_
    | refine VS.skip ?_
    | refine VS.block ?_
    | refine VS.nil ?_
    | refine blockN_normal ?_
    | refine loopN_normal ?_
    | refine VS.exit ?_
    | refine blockN_hit ?_
    | refine blockN_miss (by decide) ?_
    | refine loopN_exit ?_
    | refine ⟨⟨by omega, by omega⟩, ?_⟩
    | (refine VS.region tabOk (id := 0) [] (by kernel_rfl) ?_; generalize hK : VS _ _ _ = KK; simp [hF, dRSp, dBool]; try subst hK; try (refine VS.keep [0, 1, 2] ?_; generalize hK : VS _ _ _ = KK; simp; try subst hK))
    | (refine VS.region tabOk (id := 1) [] (by kernel_rfl) ?_; generalize hK : VS _ _ _ = KK; simp [hF, dRSp, dBool]; try subst hK; try (refine VS.keep [0, 1, 2, 7] ?_; generalize hK : VS _ _ _ = KK; simp; try subst hK))
    | (refine VS.region tabOk (id := 2) [] (by kernel_rfl) ?_; generalize hK : VS _ _ _ = KK; simp [hF, dRSp, dBool]; try subst hK; try (refine VS.keep [0, 1, 2, 7, 14] ?_; generalize hK : VS _ _ _ = KK; simp; try subst hK))
    | (refine VS.region tabOk (id := 3) [] (by kernel_rfl) ?_; generalize hK : VS _ _ _ = KK; simp [hF, dRSp, dBool]; try subst hK; try (refine VS.keep [0, 1, 2, 7] ?_; generalize hK : VS _ _ _ = KK; simp; try subst hK))
    | (refine VS.drawn tabOk mixedOk (id := 4) [(10, 27)] [⟨0, 1, 131072, 5⟩, ⟨1, 131072, 262144, 5⟩, ⟨2, 262144, 524288, 5⟩, ⟨4, 524288, 1048576, 6⟩, ⟨0, 128, 2097152, 5⟩, ⟨24, 3145728, 4194304, 5⟩, ⟨32, 4194304, 8388608, 5⟩, ⟨64, 8388608, 16777216, 6⟩, ⟨0, 2, 33554432, 5⟩, ⟨384, 50331648, 67108864, 5⟩, ⟨512, 67108864, 134217728, 5⟩, ⟨1024, 134217729, 268435456, 5⟩, ⟨3072, 402653184, 536870912, 5⟩, ⟨5120, 671088640, 1073741824, 5⟩, ⟨9216, 1207959552, 2147483648, 6⟩, ⟨1024, 134217856, 4294967296, 5⟩, ⟨50176, 6576668672, 8589934592, 5⟩, ⟨66560, 8724152320, 17179869184, 5⟩, ⟨132096, 17314086912, 34359738368, 6⟩, ⟨1024, 134217729, 68719476736, 5⟩, ⟨525312, 68853694464, 137438953472, 5⟩, ⟨1049600, 137573171200, 274877906944, 5⟩, ⟨2098176, 275012124672, 549755813888, 6⟩, ⟨1024, 134217856, 1099511627776, 5⟩, ⟨12583936, 1649401659392, 2199023255552, 5⟩, ⟨16778240, 2199157473280, 4398046511104, 5⟩, ⟨33555456, 4398180728832, 8796093022208, 6⟩, ⟨67109888, 8796227239936, 17592186044416, 5⟩, ⟨134218752, 17592320262144, 35184372088832, 5⟩, ⟨268698624, 35218866044928, 70368744177664, 5⟩, ⟨536871936, 70368878395392, 140737488355328, 6⟩, ⟨1024, 134217732, 281474976710656, 5⟩, ⟨3221226496, 422212599283712, 562949953421312, 5⟩, ⟨4294968320, 562950087639040, 1125899906842624, 5⟩] (.take 0 (.take 1 (.take 2 (.take 3 (.take 4 (.take 5 (.take 6 (.take 7 (.take 8 (.take 9 (.take 10 (.take 11 (.take 12 (.take 13 (.take 14 (.take 15 (.take 16 (.take 17 (.take 18 (.take 19 (.take 20 (.take 21 (.take 22 (.take 23 (.take 24 (.take 25 (.take 26 (.take 27 (.take 28 (.take 29 (.take 30 (.take 31 (.take 32 (.take 33 (.done))))))))))))))))))))))))))))))))))) (.run [0, 1, 2, 3, 4, 5, 6, 7, 8, 9, 10, 11, 12, 13, 14, 15, 16, 17, 18, 19, 20, 21, 22, 23, 24, 25, 26, 27, 28, 29, 30, 31, 32, 33] (.done)) (by kernel_rfl) (by kernel_rfl) (by kernel_rfl) ?_; generalize hK : VS _ _ _ = KK; simp only [opsVc_run, opsVc_both, opsVc_done, opsVc_yes, pick_cons, pick_nil, List.getElem?_cons_zero, List.getElem?_cons_succ]; simp [hF, dRSp, dBool]; try subst hK; try (refine VS.keep [0, 1, 2, 7, 50] ?_; generalize hK : VS _ _ _ = KK; simp; try subst hK))
    | (refine VS.region tabOk (id := 5) [] (by kernel_rfl) ?_; generalize hK : VS _ _ _ = KK; simp [hF, dRSp, dBool]; try subst hK; try (refine VS.keep [6] ?_; generalize hK : VS _ _ _ = KK; simp; try subst hK))
    | (refine VS.region tabOk (id := 6) [] (by kernel_rfl) ?_; generalize hK : VS _ _ _ = KK; simp [hF, dRSp, dBool]; try subst hK; try (refine VS.keep [0, 1, 2, 57] ?_; generalize hK : VS _ _ _ = KK; simp; try subst hK))
    | (refine VS.region tabOk (id := 7) [] (by kernel_rfl) ?_; generalize hK : VS _ _ _ = KK; simp [hF, dRSp, dBool]; try subst hK; try (refine VS.keep [6] ?_; generalize hK : VS _ _ _ = KK; simp; try subst hK))
    | (refine VS.drawn tabOk mixedOk (id := 8) [] [⟨0, 1, 288230376151711744, 5⟩, ⟨0, 1, 576460752303423488, 5⟩, ⟨2, 576460752303423488, 1152921504606846976, 5⟩, ⟨4, 1152921504606846976, 2305843009213693952, 5⟩, ⟨8, 2305843009213693952, 4611686018427387904, 6⟩, ⟨0, 2, 9223372036854775808, 5⟩, ⟨0, 0, 18446744073709551616, 4⟩, ⟨0, 1, 36893488147419103232, 5⟩, ⟨128, 36893488147419103232, 73786976294838206464, 5⟩, ⟨256, 73786976294838206464, 147573952589676412928, 5⟩, ⟨512, 147573952589676412928, 295147905179352825856, 6⟩, ⟨0, 2, 590295810358705651712, 5⟩, ⟨3072, 885443715538058477568, 1180591620717411303424, 5⟩, ⟨4096, 1180591620717411303424, 2361183241434822606848, 5⟩, ⟨8192, 2361183241434822606848, 4722366482869645213696, 6⟩, ⟨16448, 4740813226943354765312, 9444732965739290427392, 0⟩, ⟨0, 4, 18889465931478580854784, 5⟩, ⟨65536, 18889465931478580854784, 37778931862957161709568, 4⟩, ⟨163840, 47223664828696452136960, 75557863725914323419136, 0⟩, ⟨262176, 75567087097951178194944, 151115727451828646838272, 5⟩, ⟨524288, 151115727451828646838272, 302231454903657293676544, 4⟩, ⟨1310736, 302236066589675721064448, 604462909807314587353088, 0⟩, ⟨4194303, 288230376151711744, 1208925819614629174706176, 5⟩, ⟨8388607, 1208925819614629174706176, 2417851639229258349412352, 5⟩, ⟨12582911, 3022314549036572936765440, 0, 0⟩] (.take 0 (.take 1 (.take 2 (.take 3 (.take 5 (.take 7 (.take 8 (.take 9 (.take 10 (.take 11 (.take 12 (.take 13 (.take 14 (.take 16 (.fork (.alt 4 (.fork (.alt 6 (.fork (.alt 15 (.fork (.alt 17 (.fork (.alt 18 (.take 19 (.fork (.alt 20 (.fork (.alt 21 (.take 22 (.take 23 (.fork (.alt 24 (.done) (.nil))))) (.nil))) (.nil)))) (.nil))) (.nil))) (.alt 17 (.fork (.alt 15 (.fork (.alt 18 (.take 19 (.fork (.alt 20 (.fork (.alt 21 (.take 22 (.take 23 (.fork (.alt 24 (.done) (.nil))))) (.nil))) (.nil)))) (.nil))) (.nil))) (.nil)))) (.alt 17 (.fork (.alt 6 (.fork (.alt 15 (.fork (.alt 18 (.take 19 (.fork (.alt 20 (.fork (.alt 21 (.take 22 (.take 23 (.fork (.alt 24 (.done) (.nil))))) (.nil))) (.nil)))) (.nil))) (.nil))) (.nil))) (.nil)))) (.alt 6 (.fork (.alt 4 (.fork (.alt 15 (.fork (.alt 17 (.fork (.alt 18 (.take 19 (.fork (.alt 20 (.fork (.alt 21 (.take 22 (.take 23 (.fork (.alt 24 (.done) (.nil))))) (.nil))) (.nil)))) (.nil))) (.nil))) (.alt 17 (.fork (.alt 15 (.fork (.alt 18 (.take 19 (.fork (.alt 20 (.fork (.alt 21 (.take 22 (.take 23 (.fork (.alt 24 (.done) (.nil))))) (.nil))) (.nil)))) (.nil))) (.nil))) (.nil)))) (.alt 15 (.fork (.alt 4 (.fork (.alt 17 (.fork (.alt 18 (.take 19 (.fork (.alt 20 (.fork (.alt 21 (.take 22 (.take 23 (.fork (.alt 24 (.done) (.nil))))) (.nil))) (.nil)))) (.nil))) (.nil))) (.alt 17 (.fork (.alt 4 (.fork (.alt 18 (.take 19 (.fork (.alt 20 (.fork (.alt 21 (.take 22 (.take 23 (.fork (.alt 24 (.done) (.nil))))) (.nil))) (.nil)))) (.nil))) (.alt 18 (.take 4 (.take 19 (.fork (.alt 20 (.fork (.alt 21 (.take 22 (.take 23 (.fork (.alt 24 (.done) (.nil))))) (.nil))) (.nil))))) (.nil)))) (.nil)))) (.alt 17 (.fork (.alt 4 (.fork (.alt 15 (.fork (.alt 18 (.take 19 (.fork (.alt 20 (.fork (.alt 21 (.take 22 (.take 23 (.fork (.alt 24 (.done) (.nil))))) (.nil))) (.nil)))) (.nil))) (.nil))) (.alt 15 (.fork (.alt 4 (.fork (.alt 18 (.take 19 (.fork (.alt 20 (.fork (.alt 21 (.take 22 (.take 23 (.fork (.alt 24 (.done) (.nil))))) (.nil))) (.nil)))) (.nil))) (.alt 18 (.take 4 (.take 19 (.fork (.alt 20 (.fork (.alt 21 (.take 22 (.take 23 (.fork (.alt 24 (.done) (.nil))))) (.nil))) (.nil))))) (.nil)))) (.nil)))) (.nil))))) (.alt 17 (.fork (.alt 4 (.fork (.alt 6 (.fork (.alt 15 (.fork (.alt 18 (.take 19 (.fork (.alt 20 (.fork (.alt 21 (.take 22 (.take 23 (.fork (.alt 24 (.done) (.nil))))) (.nil))) (.nil)))) (.nil))) (.nil))) (.nil))) (.alt 6 (.fork (.alt 4 (.fork (.alt 15 (.fork (.alt 18 (.take 19 (.fork (.alt 20 (.fork (.alt 21 (.take 22 (.take 23 (.fork (.alt 24 (.done) (.nil))))) (.nil))) (.nil)))) (.nil))) (.nil))) (.alt 15 (.fork (.alt 4 (.fork (.alt 18 (.take 19 (.fork (.alt 20 (.fork (.alt 21 (.take 22 (.take 23 (.fork (.alt 24 (.done) (.nil))))) (.nil))) (.nil)))) (.nil))) (.alt 18 (.take 4 (.take 19 (.fork (.alt 20 (.fork (.alt 21 (.take 22 (.take 23 (.fork (.alt 24 (.done) (.nil))))) (.nil))) (.nil))))) (.nil)))) (.nil)))) (.nil)))) (.nil))))))))))))))))))) (.run [0, 1, 2, 3, 5, 7, 8, 9, 10, 11, 12, 13, 14, 16] (.both (.run [4] (.both (.run [6] (.both (.run [15, 17, 18, 19, 20, 21, 22, 23, 24] (.done)) (.run [17, 15, 18, 19, 20, 21, 22, 23, 24] (.done)))) (.run [17, 6, 15, 18, 19, 20, 21, 22, 23, 24] (.done)))) (.both (.run [6] (.both (.run [4] (.both (.run [15, 17, 18, 19, 20, 21, 22, 23, 24] (.done)) (.run [17, 15, 18, 19, 20, 21, 22, 23, 24] (.done)))) (.both (.run [15] (.both (.run [4, 17, 18, 19, 20, 21, 22, 23, 24] (.done)) (.run [17] (.both (.run [4, 18, 19, 20, 21, 22, 23, 24] (.done)) (.run [18, 4, 19, 20, 21, 22, 23, 24] (.done)))))) (.run [17] (.both (.run [4, 15, 18, 19, 20, 21, 22, 23, 24] (.done)) (.run [15] (.both (.run [4, 18, 19, 20, 21, 22, 23, 24] (.done)) (.run [18, 4, 19, 20, 21, 22, 23, 24] (.done))))))))) (.run [17] (.both (.run [4, 6, 15, 18, 19, 20, 21, 22, 23, 24] (.done)) (.run [6] (.both (.run [4, 15, 18, 19, 20, 21, 22, 23, 24] (.done)) (.run [15] (.both (.run [4, 18, 19, 20, 21, 22, 23, 24] (.done)) (.run [18, 4, 19, 20, 21, 22, 23, 24] (.done))))))))))) (by kernel_rfl) (by kernel_rfl) (by kernel_rfl) ?_; generalize hK : VS _ _ _ = KK; simp only [opsVc_run, opsVc_both, opsVc_done, opsVc_yes, pick_cons, pick_nil, List.getElem?_cons_zero, List.getElem?_cons_succ]; simp [hF, dRSp, dBool]; try subst hK; try (refine VS.keep [0] ?_; generalize hK : VS _ _ _ = KK; simp; try subst hK))
    | (refine VS.region tabOk (id := 9) [] (by kernel_rfl) ?_; generalize hK : VS _ _ _ = KK; simp [hF, dRSp, dBool]; try subst hK; try (refine VS.keep [6] ?_; generalize hK : VS _ _ _ = KK; simp; try subst hK))
    | (refine VS.cond ?_; generalize hK1 : VS _ _ _ = KK1; generalize hK2 : VS _ _ _ = KK2; simp [hF, dRSp, dBool]; try subst hK1; try subst hK2)
  refine ⟨fun hlt => ?_, fun hge => ?_⟩
  · have hlt' : (i : Int) < S.shapes.length := by omega
    have hlt2 : i < S.shapes.length := by omega
    have next : ∀ (h0 : (decide (S.shapes[i].parent = (k : Int)) && decide (lastName S.shapes[i].names = n)) = false), ∀ j, j < i + 1 → ∀ hj : j < S.shapes.length, (decide (S.shapes[j].parent = (k : Int)) && decide (lastName S.shapes[j].names = n)) = false := fun h0 j hj hj' => by
      rcases Nat.lt_or_ge j i with h' | h'
      · exact hall j h' hj'
      · obtain rfl : j = i := by omega
        exact h0
    by_cases hp : S.shapes[i].parent = (k : Int)
    · have hpos : 0 < i := by
        rcases Nat.eq_zero_or_pos i with h0 | h0
        · subst h0; rw [hS.root hlt2] at hp; simp at hp
        · exact h0
      obtain ⟨p, hpi, a, h1, h2⟩ := hS.below i hlt2 hpos
      have hd := hS.deep i hlt2
      have hl0 : 0 < S.shapes[i].names.length := by rw [h2]; simp
      have hlast : S.shapes[i].names.length - 1 < S.shapes[i].names.length := by omega
      have hnth := dStrs_nth hlast
      have hln : S.shapes[i].names[S.shapes[i].names.length - 1] = lastName S.shapes[i].names := by
        simp only [h2, lastName_snoc]; simp
      rw [hln] at hnth
      have hw : IntKind.i64.wrap ((S.shapes[i].names.length : Int) - 1) = (S.shapes[i].names.length : Int) - 1 := IntWalk.i64_in _ (by omega)
      have ht : ((S.shapes[i].names.length : Int) - 1).toNat = S.shapes[i].names.length - 1 := by omega
      have hb : 0 ≤ (S.shapes[i].names.length : Int) - 1 := by omega
      have hb2 : (S.shapes[i].names.length : Int) - 1 < S.shapes[i].names.length := by omega
      have hb3 : (1 : Int) ≤ (S.shapes[i].names.length : Int) := by omega
      repeat first
        | refine VS.seq ?_
        | refine VS.skip ?_
        | refine VS.block ?_
        | refine VS.nil ?_
        | refine blockN_normal ?_
        | refine loopN_normal ?_
        | refine VS.exit ?_
        | refine blockN_hit ?_
        | refine blockN_miss (by decide) ?_
        | refine loopN_exit ?_
        | refine ⟨⟨by omega, by omega⟩, ?_⟩
        | (refine VS.region tabOk (id := 0) [] (by kernel_rfl) ?_; generalize hK : VS _ _ _ = KK; simp [hF, dRSp, dBool, dRShs_at hlt2, hlt', hlt2, hp, hw, ht, hb, hb2, hb3, hnth, hlast]; try subst hK; try (refine VS.keep [0, 1, 2] ?_; generalize hK : VS _ _ _ = KK; simp; try subst hK))
        | (refine VS.region tabOk (id := 1) [] (by kernel_rfl) ?_; generalize hK : VS _ _ _ = KK; simp [hF, dRSp, dBool, dRShs_at hlt2, hlt', hlt2, hp, hw, ht, hb, hb2, hb3, hnth, hlast]; try subst hK; try (refine VS.keep [0, 1, 2, 7] ?_; generalize hK : VS _ _ _ = KK; simp; try subst hK))
        | (refine VS.region tabOk (id := 2) [] (by kernel_rfl) ?_; generalize hK : VS _ _ _ = KK; simp [hF, dRSp, dBool, dRShs_at hlt2, hlt', hlt2, hp, hw, ht, hb, hb2, hb3, hnth, hlast]; try subst hK; try (refine VS.keep [0, 1, 2, 7, 14] ?_; generalize hK : VS _ _ _ = KK; simp; try subst hK))
        | (refine VS.region tabOk (id := 3) [] (by kernel_rfl) ?_; generalize hK : VS _ _ _ = KK; simp [hF, dRSp, dBool, dRShs_at hlt2, hlt', hlt2, hp, hw, ht, hb, hb2, hb3, hnth, hlast]; try subst hK; try (refine VS.keep [0, 1, 2, 7] ?_; generalize hK : VS _ _ _ = KK; simp; try subst hK))
        | (refine VS.drawn tabOk mixedOk (id := 4) [(10, 27)] [⟨0, 1, 131072, 5⟩, ⟨1, 131072, 262144, 5⟩, ⟨2, 262144, 524288, 5⟩, ⟨4, 524288, 1048576, 6⟩, ⟨0, 128, 2097152, 5⟩, ⟨24, 3145728, 4194304, 5⟩, ⟨32, 4194304, 8388608, 5⟩, ⟨64, 8388608, 16777216, 6⟩, ⟨0, 2, 33554432, 5⟩, ⟨384, 50331648, 67108864, 5⟩, ⟨512, 67108864, 134217728, 5⟩, ⟨1024, 134217729, 268435456, 5⟩, ⟨3072, 402653184, 536870912, 5⟩, ⟨5120, 671088640, 1073741824, 5⟩, ⟨9216, 1207959552, 2147483648, 6⟩, ⟨1024, 134217856, 4294967296, 5⟩, ⟨50176, 6576668672, 8589934592, 5⟩, ⟨66560, 8724152320, 17179869184, 5⟩, ⟨132096, 17314086912, 34359738368, 6⟩, ⟨1024, 134217729, 68719476736, 5⟩, ⟨525312, 68853694464, 137438953472, 5⟩, ⟨1049600, 137573171200, 274877906944, 5⟩, ⟨2098176, 275012124672, 549755813888, 6⟩, ⟨1024, 134217856, 1099511627776, 5⟩, ⟨12583936, 1649401659392, 2199023255552, 5⟩, ⟨16778240, 2199157473280, 4398046511104, 5⟩, ⟨33555456, 4398180728832, 8796093022208, 6⟩, ⟨67109888, 8796227239936, 17592186044416, 5⟩, ⟨134218752, 17592320262144, 35184372088832, 5⟩, ⟨268698624, 35218866044928, 70368744177664, 5⟩, ⟨536871936, 70368878395392, 140737488355328, 6⟩, ⟨1024, 134217732, 281474976710656, 5⟩, ⟨3221226496, 422212599283712, 562949953421312, 5⟩, ⟨4294968320, 562950087639040, 1125899906842624, 5⟩] (.take 0 (.take 1 (.take 2 (.take 3 (.take 4 (.take 5 (.take 6 (.take 7 (.take 8 (.take 9 (.take 10 (.take 11 (.take 12 (.take 13 (.take 14 (.take 15 (.take 16 (.take 17 (.take 18 (.take 19 (.take 20 (.take 21 (.take 22 (.take 23 (.take 24 (.take 25 (.take 26 (.take 27 (.take 28 (.take 29 (.take 30 (.take 31 (.take 32 (.take 33 (.done))))))))))))))))))))))))))))))))))) (.run [0, 1, 2, 3, 4, 5, 6, 7, 8, 9, 10, 11, 12, 13, 14, 15, 16, 17, 18, 19, 20, 21, 22, 23, 24, 25, 26, 27, 28, 29, 30, 31, 32, 33] (.done)) (by kernel_rfl) (by kernel_rfl) (by kernel_rfl) ?_; generalize hK : VS _ _ _ = KK; simp only [opsVc_run, opsVc_both, opsVc_done, opsVc_yes, pick_cons, pick_nil, List.getElem?_cons_zero, List.getElem?_cons_succ]; simp [hF, dRSp, dBool, dRShs_at hlt2, hlt', hlt2, hp, hw, ht, hb, hb2, hb3, hnth, hlast]; try subst hK; try (refine VS.keep [0, 1, 2, 7, 50] ?_; generalize hK : VS _ _ _ = KK; simp; try subst hK))
        | (refine VS.region tabOk (id := 5) [] (by kernel_rfl) ?_; generalize hK : VS _ _ _ = KK; simp [hF, dRSp, dBool, dRShs_at hlt2, hlt', hlt2, hp, hw, ht, hb, hb2, hb3, hnth, hlast]; try subst hK; try (refine VS.keep [6] ?_; generalize hK : VS _ _ _ = KK; simp; try subst hK))
        | (refine VS.region tabOk (id := 6) [] (by kernel_rfl) ?_; generalize hK : VS _ _ _ = KK; simp [hF, dRSp, dBool, dRShs_at hlt2, hlt', hlt2, hp, hw, ht, hb, hb2, hb3, hnth, hlast]; try subst hK; try (refine VS.keep [0, 1, 2, 57] ?_; generalize hK : VS _ _ _ = KK; simp; try subst hK))
        | (refine VS.region tabOk (id := 7) [] (by kernel_rfl) ?_; generalize hK : VS _ _ _ = KK; simp [hF, dRSp, dBool, dRShs_at hlt2, hlt', hlt2, hp, hw, ht, hb, hb2, hb3, hnth, hlast]; try subst hK; try (refine VS.keep [6] ?_; generalize hK : VS _ _ _ = KK; simp; try subst hK))
        | (refine VS.drawn tabOk mixedOk (id := 8) [] [⟨0, 1, 288230376151711744, 5⟩, ⟨0, 1, 576460752303423488, 5⟩, ⟨2, 576460752303423488, 1152921504606846976, 5⟩, ⟨4, 1152921504606846976, 2305843009213693952, 5⟩, ⟨8, 2305843009213693952, 4611686018427387904, 6⟩, ⟨0, 2, 9223372036854775808, 5⟩, ⟨0, 0, 18446744073709551616, 4⟩, ⟨0, 1, 36893488147419103232, 5⟩, ⟨128, 36893488147419103232, 73786976294838206464, 5⟩, ⟨256, 73786976294838206464, 147573952589676412928, 5⟩, ⟨512, 147573952589676412928, 295147905179352825856, 6⟩, ⟨0, 2, 590295810358705651712, 5⟩, ⟨3072, 885443715538058477568, 1180591620717411303424, 5⟩, ⟨4096, 1180591620717411303424, 2361183241434822606848, 5⟩, ⟨8192, 2361183241434822606848, 4722366482869645213696, 6⟩, ⟨16448, 4740813226943354765312, 9444732965739290427392, 0⟩, ⟨0, 4, 18889465931478580854784, 5⟩, ⟨65536, 18889465931478580854784, 37778931862957161709568, 4⟩, ⟨163840, 47223664828696452136960, 75557863725914323419136, 0⟩, ⟨262176, 75567087097951178194944, 151115727451828646838272, 5⟩, ⟨524288, 151115727451828646838272, 302231454903657293676544, 4⟩, ⟨1310736, 302236066589675721064448, 604462909807314587353088, 0⟩, ⟨4194303, 288230376151711744, 1208925819614629174706176, 5⟩, ⟨8388607, 1208925819614629174706176, 2417851639229258349412352, 5⟩, ⟨12582911, 3022314549036572936765440, 0, 0⟩] (.take 0 (.take 1 (.take 2 (.take 3 (.take 5 (.take 7 (.take 8 (.take 9 (.take 10 (.take 11 (.take 12 (.take 13 (.take 14 (.take 16 (.fork (.alt 4 (.fork (.alt 6 (.fork (.alt 15 (.fork (.alt 17 (.fork (.alt 18 (.take 19 (.fork (.alt 20 (.fork (.alt 21 (.take 22 (.take 23 (.fork (.alt 24 (.done) (.nil))))) (.nil))) (.nil)))) (.nil))) (.nil))) (.alt 17 (.fork (.alt 15 (.fork (.alt 18 (.take 19 (.fork (.alt 20 (.fork (.alt 21 (.take 22 (.take 23 (.fork (.alt 24 (.done) (.nil))))) (.nil))) (.nil)))) (.nil))) (.nil))) (.nil)))) (.alt 17 (.fork (.alt 6 (.fork (.alt 15 (.fork (.alt 18 (.take 19 (.fork (.alt 20 (.fork (.alt 21 (.take 22 (.take 23 (.fork (.alt 24 (.done) (.nil))))) (.nil))) (.nil)))) (.nil))) (.nil))) (.nil))) (.nil)))) (.alt 6 (.fork (.alt 4 (.fork (.alt 15 (.fork (.alt 17 (.fork (.alt 18 (.take 19 (.fork (.alt 20 (.fork (.alt 21 (.take 22 (.take 23 (.fork (.alt 24 (.done) (.nil))))) (.nil))) (.nil)))) (.nil))) (.nil))) (.alt 17 (.fork (.alt 15 (.fork (.alt 18 (.take 19 (.fork (.alt 20 (.fork (.alt 21 (.take 22 (.take 23 (.fork (.alt 24 (.done) (.nil))))) (.nil))) (.nil)))) (.nil))) (.nil))) (.nil)))) (.alt 15 (.fork (.alt 4 (.fork (.alt 17 (.fork (.alt 18 (.take 19 (.fork (.alt 20 (.fork (.alt 21 (.take 22 (.take 23 (.fork (.alt 24 (.done) (.nil))))) (.nil))) (.nil)))) (.nil))) (.nil))) (.alt 17 (.fork (.alt 4 (.fork (.alt 18 (.take 19 (.fork (.alt 20 (.fork (.alt 21 (.take 22 (.take 23 (.fork (.alt 24 (.done) (.nil))))) (.nil))) (.nil)))) (.nil))) (.alt 18 (.take 4 (.take 19 (.fork (.alt 20 (.fork (.alt 21 (.take 22 (.take 23 (.fork (.alt 24 (.done) (.nil))))) (.nil))) (.nil))))) (.nil)))) (.nil)))) (.alt 17 (.fork (.alt 4 (.fork (.alt 15 (.fork (.alt 18 (.take 19 (.fork (.alt 20 (.fork (.alt 21 (.take 22 (.take 23 (.fork (.alt 24 (.done) (.nil))))) (.nil))) (.nil)))) (.nil))) (.nil))) (.alt 15 (.fork (.alt 4 (.fork (.alt 18 (.take 19 (.fork (.alt 20 (.fork (.alt 21 (.take 22 (.take 23 (.fork (.alt 24 (.done) (.nil))))) (.nil))) (.nil)))) (.nil))) (.alt 18 (.take 4 (.take 19 (.fork (.alt 20 (.fork (.alt 21 (.take 22 (.take 23 (.fork (.alt 24 (.done) (.nil))))) (.nil))) (.nil))))) (.nil)))) (.nil)))) (.nil))))) (.alt 17 (.fork (.alt 4 (.fork (.alt 6 (.fork (.alt 15 (.fork (.alt 18 (.take 19 (.fork (.alt 20 (.fork (.alt 21 (.take 22 (.take 23 (.fork (.alt 24 (.done) (.nil))))) (.nil))) (.nil)))) (.nil))) (.nil))) (.nil))) (.alt 6 (.fork (.alt 4 (.fork (.alt 15 (.fork (.alt 18 (.take 19 (.fork (.alt 20 (.fork (.alt 21 (.take 22 (.take 23 (.fork (.alt 24 (.done) (.nil))))) (.nil))) (.nil)))) (.nil))) (.nil))) (.alt 15 (.fork (.alt 4 (.fork (.alt 18 (.take 19 (.fork (.alt 20 (.fork (.alt 21 (.take 22 (.take 23 (.fork (.alt 24 (.done) (.nil))))) (.nil))) (.nil)))) (.nil))) (.alt 18 (.take 4 (.take 19 (.fork (.alt 20 (.fork (.alt 21 (.take 22 (.take 23 (.fork (.alt 24 (.done) (.nil))))) (.nil))) (.nil))))) (.nil)))) (.nil)))) (.nil)))) (.nil))))))))))))))))))) (.run [0, 1, 2, 3, 5, 7, 8, 9, 10, 11, 12, 13, 14, 16] (.both (.run [4] (.both (.run [6] (.both (.run [15, 17, 18, 19, 20, 21, 22, 23, 24] (.done)) (.run [17, 15, 18, 19, 20, 21, 22, 23, 24] (.done)))) (.run [17, 6, 15, 18, 19, 20, 21, 22, 23, 24] (.done)))) (.both (.run [6] (.both (.run [4] (.both (.run [15, 17, 18, 19, 20, 21, 22, 23, 24] (.done)) (.run [17, 15, 18, 19, 20, 21, 22, 23, 24] (.done)))) (.both (.run [15] (.both (.run [4, 17, 18, 19, 20, 21, 22, 23, 24] (.done)) (.run [17] (.both (.run [4, 18, 19, 20, 21, 22, 23, 24] (.done)) (.run [18, 4, 19, 20, 21, 22, 23, 24] (.done)))))) (.run [17] (.both (.run [4, 15, 18, 19, 20, 21, 22, 23, 24] (.done)) (.run [15] (.both (.run [4, 18, 19, 20, 21, 22, 23, 24] (.done)) (.run [18, 4, 19, 20, 21, 22, 23, 24] (.done))))))))) (.run [17] (.both (.run [4, 6, 15, 18, 19, 20, 21, 22, 23, 24] (.done)) (.run [6] (.both (.run [4, 15, 18, 19, 20, 21, 22, 23, 24] (.done)) (.run [15] (.both (.run [4, 18, 19, 20, 21, 22, 23, 24] (.done)) (.run [18, 4, 19, 20, 21, 22, 23, 24] (.done))))))))))) (by kernel_rfl) (by kernel_rfl) (by kernel_rfl) ?_; generalize hK : VS _ _ _ = KK; simp only [opsVc_run, opsVc_both, opsVc_done, opsVc_yes, pick_cons, pick_nil, List.getElem?_cons_zero, List.getElem?_cons_succ]; simp [hF, dRSp, dBool, dRShs_at hlt2, hlt', hlt2, hp, hw, ht, hb, hb2, hb3, hnth, hlast]; try subst hK; try (refine VS.keep [0] ?_; generalize hK : VS _ _ _ = KK; simp; try subst hK))
        | (refine VS.region tabOk (id := 9) [] (by kernel_rfl) ?_; generalize hK : VS _ _ _ = KK; simp [hF, dRSp, dBool, dRShs_at hlt2, hlt', hlt2, hp, hw, ht, hb, hb2, hb3, hnth, hlast]; try subst hK; try (refine VS.keep [6] ?_; generalize hK : VS _ _ _ = KK; simp; try subst hK))
        | (refine VS.cond ?_; generalize hK1 : VS _ _ _ = KK1; generalize hK2 : VS _ _ _ = KK2; simp [hF, dRSp, dBool, dRShs_at hlt2, hlt', hlt2, hp, hw, ht, hb, hb2, hb3, hnth, hlast]; try subst hK1; try subst hK2)
      refine ⟨fun he => ?_, fun he => ?_⟩
      · repeat first
          | refine VS.seq ?_
          | refine VS.skip ?_
          | refine VS.block ?_
          | refine VS.nil ?_
          | refine blockN_normal ?_
          | refine loopN_normal ?_
          | refine VS.exit ?_
          | refine blockN_hit ?_
          | refine blockN_miss (by decide) ?_
          | refine loopN_exit ?_
          | refine ⟨⟨by omega, by omega⟩, ?_⟩
          | (refine VS.region tabOk (id := 0) [] (by kernel_rfl) ?_; generalize hK : VS _ _ _ = KK; simp [hF]; try subst hK; try (refine VS.keep [0, 1, 2] ?_; generalize hK : VS _ _ _ = KK; simp; try subst hK))
          | (refine VS.region tabOk (id := 1) [] (by kernel_rfl) ?_; generalize hK : VS _ _ _ = KK; simp [hF]; try subst hK; try (refine VS.keep [0, 1, 2, 7] ?_; generalize hK : VS _ _ _ = KK; simp; try subst hK))
          | (refine VS.region tabOk (id := 2) [] (by kernel_rfl) ?_; generalize hK : VS _ _ _ = KK; simp [hF]; try subst hK; try (refine VS.keep [0, 1, 2, 7, 14] ?_; generalize hK : VS _ _ _ = KK; simp; try subst hK))
          | (refine VS.region tabOk (id := 3) [] (by kernel_rfl) ?_; generalize hK : VS _ _ _ = KK; simp [hF]; try subst hK; try (refine VS.keep [0, 1, 2, 7] ?_; generalize hK : VS _ _ _ = KK; simp; try subst hK))
          | (refine VS.drawn tabOk mixedOk (id := 4) [(10, 27)] [⟨0, 1, 131072, 5⟩, ⟨1, 131072, 262144, 5⟩, ⟨2, 262144, 524288, 5⟩, ⟨4, 524288, 1048576, 6⟩, ⟨0, 128, 2097152, 5⟩, ⟨24, 3145728, 4194304, 5⟩, ⟨32, 4194304, 8388608, 5⟩, ⟨64, 8388608, 16777216, 6⟩, ⟨0, 2, 33554432, 5⟩, ⟨384, 50331648, 67108864, 5⟩, ⟨512, 67108864, 134217728, 5⟩, ⟨1024, 134217729, 268435456, 5⟩, ⟨3072, 402653184, 536870912, 5⟩, ⟨5120, 671088640, 1073741824, 5⟩, ⟨9216, 1207959552, 2147483648, 6⟩, ⟨1024, 134217856, 4294967296, 5⟩, ⟨50176, 6576668672, 8589934592, 5⟩, ⟨66560, 8724152320, 17179869184, 5⟩, ⟨132096, 17314086912, 34359738368, 6⟩, ⟨1024, 134217729, 68719476736, 5⟩, ⟨525312, 68853694464, 137438953472, 5⟩, ⟨1049600, 137573171200, 274877906944, 5⟩, ⟨2098176, 275012124672, 549755813888, 6⟩, ⟨1024, 134217856, 1099511627776, 5⟩, ⟨12583936, 1649401659392, 2199023255552, 5⟩, ⟨16778240, 2199157473280, 4398046511104, 5⟩, ⟨33555456, 4398180728832, 8796093022208, 6⟩, ⟨67109888, 8796227239936, 17592186044416, 5⟩, ⟨134218752, 17592320262144, 35184372088832, 5⟩, ⟨268698624, 35218866044928, 70368744177664, 5⟩, ⟨536871936, 70368878395392, 140737488355328, 6⟩, ⟨1024, 134217732, 281474976710656, 5⟩, ⟨3221226496, 422212599283712, 562949953421312, 5⟩, ⟨4294968320, 562950087639040, 1125899906842624, 5⟩] (.take 0 (.take 1 (.take 2 (.take 3 (.take 4 (.take 5 (.take 6 (.take 7 (.take 8 (.take 9 (.take 10 (.take 11 (.take 12 (.take 13 (.take 14 (.take 15 (.take 16 (.take 17 (.take 18 (.take 19 (.take 20 (.take 21 (.take 22 (.take 23 (.take 24 (.take 25 (.take 26 (.take 27 (.take 28 (.take 29 (.take 30 (.take 31 (.take 32 (.take 33 (.done))))))))))))))))))))))))))))))))))) (.run [0, 1, 2, 3, 4, 5, 6, 7, 8, 9, 10, 11, 12, 13, 14, 15, 16, 17, 18, 19, 20, 21, 22, 23, 24, 25, 26, 27, 28, 29, 30, 31, 32, 33] (.done)) (by kernel_rfl) (by kernel_rfl) (by kernel_rfl) ?_; generalize hK : VS _ _ _ = KK; simp only [opsVc_run, opsVc_both, opsVc_done, opsVc_yes, pick_cons, pick_nil, List.getElem?_cons_zero, List.getElem?_cons_succ]; simp [hF]; try subst hK; try (refine VS.keep [0, 1, 2, 7, 50] ?_; generalize hK : VS _ _ _ = KK; simp; try subst hK))
          | (refine VS.region tabOk (id := 5) [] (by kernel_rfl) ?_; generalize hK : VS _ _ _ = KK; simp [hF]; try subst hK; try (refine VS.keep [6] ?_; generalize hK : VS _ _ _ = KK; simp; try subst hK))
          | (refine VS.region tabOk (id := 6) [] (by kernel_rfl) ?_; generalize hK : VS _ _ _ = KK; simp [hF]; try subst hK; try (refine VS.keep [0, 1, 2, 57] ?_; generalize hK : VS _ _ _ = KK; simp; try subst hK))
          | (refine VS.region tabOk (id := 7) [] (by kernel_rfl) ?_; generalize hK : VS _ _ _ = KK; simp [hF]; try subst hK; try (refine VS.keep [6] ?_; generalize hK : VS _ _ _ = KK; simp; try subst hK))
          | (refine VS.drawn tabOk mixedOk (id := 8) [] [⟨0, 1, 288230376151711744, 5⟩, ⟨0, 1, 576460752303423488, 5⟩, ⟨2, 576460752303423488, 1152921504606846976, 5⟩, ⟨4, 1152921504606846976, 2305843009213693952, 5⟩, ⟨8, 2305843009213693952, 4611686018427387904, 6⟩, ⟨0, 2, 9223372036854775808, 5⟩, ⟨0, 0, 18446744073709551616, 4⟩, ⟨0, 1, 36893488147419103232, 5⟩, ⟨128, 36893488147419103232, 73786976294838206464, 5⟩, ⟨256, 73786976294838206464, 147573952589676412928, 5⟩, ⟨512, 147573952589676412928, 295147905179352825856, 6⟩, ⟨0, 2, 590295810358705651712, 5⟩, ⟨3072, 885443715538058477568, 1180591620717411303424, 5⟩, ⟨4096, 1180591620717411303424, 2361183241434822606848, 5⟩, ⟨8192, 2361183241434822606848, 4722366482869645213696, 6⟩, ⟨16448, 4740813226943354765312, 9444732965739290427392, 0⟩, ⟨0, 4, 18889465931478580854784, 5⟩, ⟨65536, 18889465931478580854784, 37778931862957161709568, 4⟩, ⟨163840, 47223664828696452136960, 75557863725914323419136, 0⟩, ⟨262176, 75567087097951178194944, 151115727451828646838272, 5⟩, ⟨524288, 151115727451828646838272, 302231454903657293676544, 4⟩, ⟨1310736, 302236066589675721064448, 604462909807314587353088, 0⟩, ⟨4194303, 288230376151711744, 1208925819614629174706176, 5⟩, ⟨8388607, 1208925819614629174706176, 2417851639229258349412352, 5⟩, ⟨12582911, 3022314549036572936765440, 0, 0⟩] (.take 0 (.take 1 (.take 2 (.take 3 (.take 5 (.take 7 (.take 8 (.take 9 (.take 10 (.take 11 (.take 12 (.take 13 (.take 14 (.take 16 (.fork (.alt 4 (.fork (.alt 6 (.fork (.alt 15 (.fork (.alt 17 (.fork (.alt 18 (.take 19 (.fork (.alt 20 (.fork (.alt 21 (.take 22 (.take 23 (.fork (.alt 24 (.done) (.nil))))) (.nil))) (.nil)))) (.nil))) (.nil))) (.alt 17 (.fork (.alt 15 (.fork (.alt 18 (.take 19 (.fork (.alt 20 (.fork (.alt 21 (.take 22 (.take 23 (.fork (.alt 24 (.done) (.nil))))) (.nil))) (.nil)))) (.nil))) (.nil))) (.nil)))) (.alt 17 (.fork (.alt 6 (.fork (.alt 15 (.fork (.alt 18 (.take 19 (.fork (.alt 20 (.fork (.alt 21 (.take 22 (.take 23 (.fork (.alt 24 (.done) (.nil))))) (.nil))) (.nil)))) (.nil))) (.nil))) (.nil))) (.nil)))) (.alt 6 (.fork (.alt 4 (.fork (.alt 15 (.fork (.alt 17 (.fork (.alt 18 (.take 19 (.fork (.alt 20 (.fork (.alt 21 (.take 22 (.take 23 (.fork (.alt 24 (.done) (.nil))))) (.nil))) (.nil)))) (.nil))) (.nil))) (.alt 17 (.fork (.alt 15 (.fork (.alt 18 (.take 19 (.fork (.alt 20 (.fork (.alt 21 (.take 22 (.take 23 (.fork (.alt 24 (.done) (.nil))))) (.nil))) (.nil)))) (.nil))) (.nil))) (.nil)))) (.alt 15 (.fork (.alt 4 (.fork (.alt 17 (.fork (.alt 18 (.take 19 (.fork (.alt 20 (.fork (.alt 21 (.take 22 (.take 23 (.fork (.alt 24 (.done) (.nil))))) (.nil))) (.nil)))) (.nil))) (.nil))) (.alt 17 (.fork (.alt 4 (.fork (.alt 18 (.take 19 (.fork (.alt 20 (.fork (.alt 21 (.take 22 (.take 23 (.fork (.alt 24 (.done) (.nil))))) (.nil))) (.nil)))) (.nil))) (.alt 18 (.take 4 (.take 19 (.fork (.alt 20 (.fork (.alt 21 (.take 22 (.take 23 (.fork (.alt 24 (.done) (.nil))))) (.nil))) (.nil))))) (.nil)))) (.nil)))) (.alt 17 (.fork (.alt 4 (.fork (.alt 15 (.fork (.alt 18 (.take 19 (.fork (.alt 20 (.fork (.alt 21 (.take 22 (.take 23 (.fork (.alt 24 (.done) (.nil))))) (.nil))) (.nil)))) (.nil))) (.nil))) (.alt 15 (.fork (.alt 4 (.fork (.alt 18 (.take 19 (.fork (.alt 20 (.fork (.alt 21 (.take 22 (.take 23 (.fork (.alt 24 (.done) (.nil))))) (.nil))) (.nil)))) (.nil))) (.alt 18 (.take 4 (.take 19 (.fork (.alt 20 (.fork (.alt 21 (.take 22 (.take 23 (.fork (.alt 24 (.done) (.nil))))) (.nil))) (.nil))))) (.nil)))) (.nil)))) (.nil))))) (.alt 17 (.fork (.alt 4 (.fork (.alt 6 (.fork (.alt 15 (.fork (.alt 18 (.take 19 (.fork (.alt 20 (.fork (.alt 21 (.take 22 (.take 23 (.fork (.alt 24 (.done) (.nil))))) (.nil))) (.nil)))) (.nil))) (.nil))) (.nil))) (.alt 6 (.fork (.alt 4 (.fork (.alt 15 (.fork (.alt 18 (.take 19 (.fork (.alt 20 (.fork (.alt 21 (.take 22 (.take 23 (.fork (.alt 24 (.done) (.nil))))) (.nil))) (.nil)))) (.nil))) (.nil))) (.alt 15 (.fork (.alt 4 (.fork (.alt 18 (.take 19 (.fork (.alt 20 (.fork (.alt 21 (.take 22 (.take 23 (.fork (.alt 24 (.done) (.nil))))) (.nil))) (.nil)))) (.nil))) (.alt 18 (.take 4 (.take 19 (.fork (.alt 20 (.fork (.alt 21 (.take 22 (.take 23 (.fork (.alt 24 (.done) (.nil))))) (.nil))) (.nil))))) (.nil)))) (.nil)))) (.nil)))) (.nil))))))))))))))))))) (.run [0, 1, 2, 3, 5, 7, 8, 9, 10, 11, 12, 13, 14, 16] (.both (.run [4] (.both (.run [6] (.both (.run [15, 17, 18, 19, 20, 21, 22, 23, 24] (.done)) (.run [17, 15, 18, 19, 20, 21, 22, 23, 24] (.done)))) (.run [17, 6, 15, 18, 19, 20, 21, 22, 23, 24] (.done)))) (.both (.run [6] (.both (.run [4] (.both (.run [15, 17, 18, 19, 20, 21, 22, 23, 24] (.done)) (.run [17, 15, 18, 19, 20, 21, 22, 23, 24] (.done)))) (.both (.run [15] (.both (.run [4, 17, 18, 19, 20, 21, 22, 23, 24] (.done)) (.run [17] (.both (.run [4, 18, 19, 20, 21, 22, 23, 24] (.done)) (.run [18, 4, 19, 20, 21, 22, 23, 24] (.done)))))) (.run [17] (.both (.run [4, 15, 18, 19, 20, 21, 22, 23, 24] (.done)) (.run [15] (.both (.run [4, 18, 19, 20, 21, 22, 23, 24] (.done)) (.run [18, 4, 19, 20, 21, 22, 23, 24] (.done))))))))) (.run [17] (.both (.run [4, 6, 15, 18, 19, 20, 21, 22, 23, 24] (.done)) (.run [6] (.both (.run [4, 15, 18, 19, 20, 21, 22, 23, 24] (.done)) (.run [15] (.both (.run [4, 18, 19, 20, 21, 22, 23, 24] (.done)) (.run [18, 4, 19, 20, 21, 22, 23, 24] (.done))))))))))) (by kernel_rfl) (by kernel_rfl) (by kernel_rfl) ?_; generalize hK : VS _ _ _ = KK; simp only [opsVc_run, opsVc_both, opsVc_done, opsVc_yes, pick_cons, pick_nil, List.getElem?_cons_zero, List.getElem?_cons_succ]; simp [hF]; try subst hK; try (refine VS.keep [0] ?_; generalize hK : VS _ _ _ = KK; simp; try subst hK))
          | (refine VS.region tabOk (id := 9) [] (by kernel_rfl) ?_; generalize hK : VS _ _ _ = KK; simp [hF]; try subst hK; try (refine VS.keep [6] ?_; generalize hK : VS _ _ _ = KK; simp; try subst hK))
          | (refine VS.cond ?_; generalize hK1 : VS _ _ _ = KK1; generalize hK2 : VS _ _ _ = KK2; simp [hF]; try subst hK1; try subst hK2)
        have hb : belowOf S.shapes k n = i := posBy_at hlt2 (by simp [hp, he]) hall
        try refine VS.ret ?_
        repeat first | refine blockN_ret ?_ | refine loopN_ret ?_
        refine endK.of [6] [0] [(0, [.d, .f 1])] (by simp [hF]) (by simp [covers, mpre]) ?_
        simp [hF, retK, dRSp, dBool, rbelow, hb]
      · repeat first
          | refine VS.seq ?_
          | refine VS.skip ?_
          | refine VS.block ?_
          | refine VS.nil ?_
          | refine blockN_normal ?_
          | refine loopN_normal ?_
          | refine VS.exit ?_
          | refine blockN_hit ?_
          | refine blockN_miss (by decide) ?_
          | refine loopN_exit ?_
          | refine ⟨⟨by omega, by omega⟩, ?_⟩
          | (refine VS.region tabOk (id := 0) [] (by kernel_rfl) ?_; generalize hK : VS _ _ _ = KK; simp [hF]; try subst hK; try (refine VS.keep [0, 1, 2] ?_; generalize hK : VS _ _ _ = KK; simp; try subst hK))
          | (refine VS.region tabOk (id := 1) [] (by kernel_rfl) ?_; generalize hK : VS _ _ _ = KK; simp [hF]; try subst hK; try (refine VS.keep [0, 1, 2, 7] ?_; generalize hK : VS _ _ _ = KK; simp; try subst hK))
          | (refine VS.region tabOk (id := 2) [] (by kernel_rfl) ?_; generalize hK : VS _ _ _ = KK; simp [hF]; try subst hK; try (refine VS.keep [0, 1, 2, 7, 14] ?_; generalize hK : VS _ _ _ = KK; simp; try subst hK))
          | (refine VS.region tabOk (id := 3) [] (by kernel_rfl) ?_; generalize hK : VS _ _ _ = KK; simp [hF]; try subst hK; try (refine VS.keep [0, 1, 2, 7] ?_; generalize hK : VS _ _ _ = KK; simp; try subst hK))
          | (refine VS.drawn tabOk mixedOk (id := 4) [(10, 27)] [⟨0, 1, 131072, 5⟩, ⟨1, 131072, 262144, 5⟩, ⟨2, 262144, 524288, 5⟩, ⟨4, 524288, 1048576, 6⟩, ⟨0, 128, 2097152, 5⟩, ⟨24, 3145728, 4194304, 5⟩, ⟨32, 4194304, 8388608, 5⟩, ⟨64, 8388608, 16777216, 6⟩, ⟨0, 2, 33554432, 5⟩, ⟨384, 50331648, 67108864, 5⟩, ⟨512, 67108864, 134217728, 5⟩, ⟨1024, 134217729, 268435456, 5⟩, ⟨3072, 402653184, 536870912, 5⟩, ⟨5120, 671088640, 1073741824, 5⟩, ⟨9216, 1207959552, 2147483648, 6⟩, ⟨1024, 134217856, 4294967296, 5⟩, ⟨50176, 6576668672, 8589934592, 5⟩, ⟨66560, 8724152320, 17179869184, 5⟩, ⟨132096, 17314086912, 34359738368, 6⟩, ⟨1024, 134217729, 68719476736, 5⟩, ⟨525312, 68853694464, 137438953472, 5⟩, ⟨1049600, 137573171200, 274877906944, 5⟩, ⟨2098176, 275012124672, 549755813888, 6⟩, ⟨1024, 134217856, 1099511627776, 5⟩, ⟨12583936, 1649401659392, 2199023255552, 5⟩, ⟨16778240, 2199157473280, 4398046511104, 5⟩, ⟨33555456, 4398180728832, 8796093022208, 6⟩, ⟨67109888, 8796227239936, 17592186044416, 5⟩, ⟨134218752, 17592320262144, 35184372088832, 5⟩, ⟨268698624, 35218866044928, 70368744177664, 5⟩, ⟨536871936, 70368878395392, 140737488355328, 6⟩, ⟨1024, 134217732, 281474976710656, 5⟩, ⟨3221226496, 422212599283712, 562949953421312, 5⟩, ⟨4294968320, 562950087639040, 1125899906842624, 5⟩] (.take 0 (.take 1 (.take 2 (.take 3 (.take 4 (.take 5 (.take 6 (.take 7 (.take 8 (.take 9 (.take 10 (.take 11 (.take 12 (.take 13 (.take 14 (.take 15 (.take 16 (.take 17 (.take 18 (.take 19 (.take 20 (.take 21 (.take 22 (.take 23 (.take 24 (.take 25 (.take 26 (.take 27 (.take 28 (.take 29 (.take 30 (.take 31 (.take 32 (.take 33 (.done))))))))))))))))))))))))))))))))))) (.run [0, 1, 2, 3, 4, 5, 6, 7, 8, 9, 10, 11, 12, 13, 14, 15, 16, 17, 18, 19, 20, 21, 22, 23, 24, 25, 26, 27, 28, 29, 30, 31, 32, 33] (.done)) (by kernel_rfl) (by kernel_rfl) (by kernel_rfl) ?_; generalize hK : VS _ _ _ = KK; simp only [opsVc_run, opsVc_both, opsVc_done, opsVc_yes, pick_cons, pick_nil, List.getElem?_cons_zero, List.getElem?_cons_succ]; simp [hF]; try subst hK; try (refine VS.keep [0, 1, 2, 7, 50] ?_; generalize hK : VS _ _ _ = KK; simp; try subst hK))
          | (refine VS.region tabOk (id := 5) [] (by kernel_rfl) ?_; generalize hK : VS _ _ _ = KK; simp [hF]; try subst hK; try (refine VS.keep [6] ?_; generalize hK : VS _ _ _ = KK; simp; try subst hK))
          | (refine VS.region tabOk (id := 6) [] (by kernel_rfl) ?_; generalize hK : VS _ _ _ = KK; simp [hF]; try subst hK; try (refine VS.keep [0, 1, 2, 57] ?_; generalize hK : VS _ _ _ = KK; simp; try subst hK))
          | (refine VS.region tabOk (id := 7) [] (by kernel_rfl) ?_; generalize hK : VS _ _ _ = KK; simp [hF]; try subst hK; try (refine VS.keep [6] ?_; generalize hK : VS _ _ _ = KK; simp; try subst hK))
          | (refine VS.drawn tabOk mixedOk (id := 8) [] [⟨0, 1, 288230376151711744, 5⟩, ⟨0, 1, 576460752303423488, 5⟩, ⟨2, 576460752303423488, 1152921504606846976, 5⟩, ⟨4, 1152921504606846976, 2305843009213693952, 5⟩, ⟨8, 2305843009213693952, 4611686018427387904, 6⟩, ⟨0, 2, 9223372036854775808, 5⟩, ⟨0, 0, 18446744073709551616, 4⟩, ⟨0, 1, 36893488147419103232, 5⟩, ⟨128, 36893488147419103232, 73786976294838206464, 5⟩, ⟨256, 73786976294838206464, 147573952589676412928, 5⟩, ⟨512, 147573952589676412928, 295147905179352825856, 6⟩, ⟨0, 2, 590295810358705651712, 5⟩, ⟨3072, 885443715538058477568, 1180591620717411303424, 5⟩, ⟨4096, 1180591620717411303424, 2361183241434822606848, 5⟩, ⟨8192, 2361183241434822606848, 4722366482869645213696, 6⟩, ⟨16448, 4740813226943354765312, 9444732965739290427392, 0⟩, ⟨0, 4, 18889465931478580854784, 5⟩, ⟨65536, 18889465931478580854784, 37778931862957161709568, 4⟩, ⟨163840, 47223664828696452136960, 75557863725914323419136, 0⟩, ⟨262176, 75567087097951178194944, 151115727451828646838272, 5⟩, ⟨524288, 151115727451828646838272, 302231454903657293676544, 4⟩, ⟨1310736, 302236066589675721064448, 604462909807314587353088, 0⟩, ⟨4194303, 288230376151711744, 1208925819614629174706176, 5⟩, ⟨8388607, 1208925819614629174706176, 2417851639229258349412352, 5⟩, ⟨12582911, 3022314549036572936765440, 0, 0⟩] (.take 0 (.take 1 (.take 2 (.take 3 (.take 5 (.take 7 (.take 8 (.take 9 (.take 10 (.take 11 (.take 12 (.take 13 (.take 14 (.take 16 (.fork (.alt 4 (.fork (.alt 6 (.fork (.alt 15 (.fork (.alt 17 (.fork (.alt 18 (.take 19 (.fork (.alt 20 (.fork (.alt 21 (.take 22 (.take 23 (.fork (.alt 24 (.done) (.nil))))) (.nil))) (.nil)))) (.nil))) (.nil))) (.alt 17 (.fork (.alt 15 (.fork (.alt 18 (.take 19 (.fork (.alt 20 (.fork (.alt 21 (.take 22 (.take 23 (.fork (.alt 24 (.done) (.nil))))) (.nil))) (.nil)))) (.nil))) (.nil))) (.nil)))) (.alt 17 (.fork (.alt 6 (.fork (.alt 15 (.fork (.alt 18 (.take 19 (.fork (.alt 20 (.fork (.alt 21 (.take 22 (.take 23 (.fork (.alt 24 (.done) (.nil))))) (.nil))) (.nil)))) (.nil))) (.nil))) (.nil))) (.nil)))) (.alt 6 (.fork (.alt 4 (.fork (.alt 15 (.fork (.alt 17 (.fork (.alt 18 (.take 19 (.fork (.alt 20 (.fork (.alt 21 (.take 22 (.take 23 (.fork (.alt 24 (.done) (.nil))))) (.nil))) (.nil)))) (.nil))) (.nil))) (.alt 17 (.fork (.alt 15 (.fork (.alt 18 (.take 19 (.fork (.alt 20 (.fork (.alt 21 (.take 22 (.take 23 (.fork (.alt 24 (.done) (.nil))))) (.nil))) (.nil)))) (.nil))) (.nil))) (.nil)))) (.alt 15 (.fork (.alt 4 (.fork (.alt 17 (.fork (.alt 18 (.take 19 (.fork (.alt 20 (.fork (.alt 21 (.take 22 (.take 23 (.fork (.alt 24 (.done) (.nil))))) (.nil))) (.nil)))) (.nil))) (.nil))) (.alt 17 (.fork (.alt 4 (.fork (.alt 18 (.take 19 (.fork (.alt 20 (.fork (.alt 21 (.take 22 (.take 23 (.fork (.alt 24 (.done) (.nil))))) (.nil))) (.nil)))) (.nil))) (.alt 18 (.take 4 (.take 19 (.fork (.alt 20 (.fork (.alt 21 (.take 22 (.take 23 (.fork (.alt 24 (.done) (.nil))))) (.nil))) (.nil))))) (.nil)))) (.nil)))) (.alt 17 (.fork (.alt 4 (.fork (.alt 15 (.fork (.alt 18 (.take 19 (.fork (.alt 20 (.fork (.alt 21 (.take 22 (.take 23 (.fork (.alt 24 (.done) (.nil))))) (.nil))) (.nil)))) (.nil))) (.nil))) (.alt 15 (.fork (.alt 4 (.fork (.alt 18 (.take 19 (.fork (.alt 20 (.fork (.alt 21 (.take 22 (.take 23 (.fork (.alt 24 (.done) (.nil))))) (.nil))) (.nil)))) (.nil))) (.alt 18 (.take 4 (.take 19 (.fork (.alt 20 (.fork (.alt 21 (.take 22 (.take 23 (.fork (.alt 24 (.done) (.nil))))) (.nil))) (.nil))))) (.nil)))) (.nil)))) (.nil))))) (.alt 17 (.fork (.alt 4 (.fork (.alt 6 (.fork (.alt 15 (.fork (.alt 18 (.take 19 (.fork (.alt 20 (.fork (.alt 21 (.take 22 (.take 23 (.fork (.alt 24 (.done) (.nil))))) (.nil))) (.nil)))) (.nil))) (.nil))) (.nil))) (.alt 6 (.fork (.alt 4 (.fork (.alt 15 (.fork (.alt 18 (.take 19 (.fork (.alt 20 (.fork (.alt 21 (.take 22 (.take 23 (.fork (.alt 24 (.done) (.nil))))) (.nil))) (.nil)))) (.nil))) (.nil))) (.alt 15 (.fork (.alt 4 (.fork (.alt 18 (.take 19 (.fork (.alt 20 (.fork (.alt 21 (.take 22 (.take 23 (.fork (.alt 24 (.done) (.nil))))) (.nil))) (.nil)))) (.nil))) (.alt 18 (.take 4 (.take 19 (.fork (.alt 20 (.fork (.alt 21 (.take 22 (.take 23 (.fork (.alt 24 (.done) (.nil))))) (.nil))) (.nil))))) (.nil)))) (.nil)))) (.nil)))) (.nil))))))))))))))))))) (.run [0, 1, 2, 3, 5, 7, 8, 9, 10, 11, 12, 13, 14, 16] (.both (.run [4] (.both (.run [6] (.both (.run [15, 17, 18, 19, 20, 21, 22, 23, 24] (.done)) (.run [17, 15, 18, 19, 20, 21, 22, 23, 24] (.done)))) (.run [17, 6, 15, 18, 19, 20, 21, 22, 23, 24] (.done)))) (.both (.run [6] (.both (.run [4] (.both (.run [15, 17, 18, 19, 20, 21, 22, 23, 24] (.done)) (.run [17, 15, 18, 19, 20, 21, 22, 23, 24] (.done)))) (.both (.run [15] (.both (.run [4, 17, 18, 19, 20, 21, 22, 23, 24] (.done)) (.run [17] (.both (.run [4, 18, 19, 20, 21, 22, 23, 24] (.done)) (.run [18, 4, 19, 20, 21, 22, 23, 24] (.done)))))) (.run [17] (.both (.run [4, 15, 18, 19, 20, 21, 22, 23, 24] (.done)) (.run [15] (.both (.run [4, 18, 19, 20, 21, 22, 23, 24] (.done)) (.run [18, 4, 19, 20, 21, 22, 23, 24] (.done))))))))) (.run [17] (.both (.run [4, 6, 15, 18, 19, 20, 21, 22, 23, 24] (.done)) (.run [6] (.both (.run [4, 15, 18, 19, 20, 21, 22, 23, 24] (.done)) (.run [15] (.both (.run [4, 18, 19, 20, 21, 22, 23, 24] (.done)) (.run [18, 4, 19, 20, 21, 22, 23, 24] (.done))))))))))) (by kernel_rfl) (by kernel_rfl) (by kernel_rfl) ?_; generalize hK : VS _ _ _ = KK; simp only [opsVc_run, opsVc_both, opsVc_done, opsVc_yes, pick_cons, pick_nil, List.getElem?_cons_zero, List.getElem?_cons_succ]; simp [hF]; try subst hK; try (refine VS.keep [0] ?_; generalize hK : VS _ _ _ = KK; simp; try subst hK))
          | (refine VS.region tabOk (id := 9) [] (by kernel_rfl) ?_; generalize hK : VS _ _ _ = KK; simp [hF]; try subst hK; try (refine VS.keep [6] ?_; generalize hK : VS _ _ _ = KK; simp; try subst hK))
          | (refine VS.cond ?_; generalize hK1 : VS _ _ _ = KK1; generalize hK2 : VS _ _ _ = KK2; simp [hF]; try subst hK1; try subst hK2)
        refine nextK.of [0, 1, 2, 7] [0] (m - 1) (by omega) (by simp [hF]) ?_
        refine ⟨i + 1, by omega, next (by simp [he]), ?_⟩
        simp [dRSp, dBool]
        exact IntWalk.i64_in _ (by omega)
    · repeat first
        | refine VS.seq ?_
        | refine VS.skip ?_
        | refine VS.block ?_
        | refine VS.nil ?_
        | refine blockN_normal ?_
        | refine loopN_normal ?_
        | refine VS.exit ?_
        | refine blockN_hit ?_
        | refine blockN_miss (by decide) ?_
        | refine loopN_exit ?_
        | refine ⟨⟨by omega, by omega⟩, ?_⟩
        | (refine VS.region tabOk (id := 0) [] (by kernel_rfl) ?_; generalize hK : VS _ _ _ = KK; simp [hF, dRSp, dBool, dRShs_at hlt2, hlt', hlt2, hp]; try subst hK; try (refine VS.keep [0, 1, 2] ?_; generalize hK : VS _ _ _ = KK; simp; try subst hK))
        | (refine VS.region tabOk (id := 1) [] (by kernel_rfl) ?_; generalize hK : VS _ _ _ = KK; simp [hF, dRSp, dBool, dRShs_at hlt2, hlt', hlt2, hp]; try subst hK; try (refine VS.keep [0, 1, 2, 7] ?_; generalize hK : VS _ _ _ = KK; simp; try subst hK))
        | (refine VS.region tabOk (id := 2) [] (by kernel_rfl) ?_; generalize hK : VS _ _ _ = KK; simp [hF, dRSp, dBool, dRShs_at hlt2, hlt', hlt2, hp]; try subst hK; try (refine VS.keep [0, 1, 2, 7, 14] ?_; generalize hK : VS _ _ _ = KK; simp; try subst hK))
        | (refine VS.region tabOk (id := 3) [] (by kernel_rfl) ?_; generalize hK : VS _ _ _ = KK; simp [hF, dRSp, dBool, dRShs_at hlt2, hlt', hlt2, hp]; try subst hK; try (refine VS.keep [0, 1, 2, 7] ?_; generalize hK : VS _ _ _ = KK; simp; try subst hK))
        | (refine VS.drawn tabOk mixedOk (id := 4) [(10, 27)] [⟨0, 1, 131072, 5⟩, ⟨1, 131072, 262144, 5⟩, ⟨2, 262144, 524288, 5⟩, ⟨4, 524288, 1048576, 6⟩, ⟨0, 128, 2097152, 5⟩, ⟨24, 3145728, 4194304, 5⟩, ⟨32, 4194304, 8388608, 5⟩, ⟨64, 8388608, 16777216, 6⟩, ⟨0, 2, 33554432, 5⟩, ⟨384, 50331648, 67108864, 5⟩, ⟨512, 67108864, 134217728, 5⟩, ⟨1024, 134217729, 268435456, 5⟩, ⟨3072, 402653184, 536870912, 5⟩, ⟨5120, 671088640, 1073741824, 5⟩, ⟨9216, 1207959552, 2147483648, 6⟩, ⟨1024, 134217856, 4294967296, 5⟩, ⟨50176, 6576668672, 8589934592, 5⟩, ⟨66560, 8724152320, 17179869184, 5⟩, ⟨132096, 17314086912, 34359738368, 6⟩, ⟨1024, 134217729, 68719476736, 5⟩, ⟨525312, 68853694464, 137438953472, 5⟩, ⟨1049600, 137573171200, 274877906944, 5⟩, ⟨2098176, 275012124672, 549755813888, 6⟩, ⟨1024, 134217856, 1099511627776, 5⟩, ⟨12583936, 1649401659392, 2199023255552, 5⟩, ⟨16778240, 2199157473280, 4398046511104, 5⟩, ⟨33555456, 4398180728832, 8796093022208, 6⟩, ⟨67109888, 8796227239936, 17592186044416, 5⟩, ⟨134218752, 17592320262144, 35184372088832, 5⟩, ⟨268698624, 35218866044928, 70368744177664, 5⟩, ⟨536871936, 70368878395392, 140737488355328, 6⟩, ⟨1024, 134217732, 281474976710656, 5⟩, ⟨3221226496, 422212599283712, 562949953421312, 5⟩, ⟨4294968320, 562950087639040, 1125899906842624, 5⟩] (.take 0 (.take 1 (.take 2 (.take 3 (.take 4 (.take 5 (.take 6 (.take 7 (.take 8 (.take 9 (.take 10 (.take 11 (.take 12 (.take 13 (.take 14 (.take 15 (.take 16 (.take 17 (.take 18 (.take 19 (.take 20 (.take 21 (.take 22 (.take 23 (.take 24 (.take 25 (.take 26 (.take 27 (.take 28 (.take 29 (.take 30 (.take 31 (.take 32 (.take 33 (.done))))))))))))))))))))))))))))))))))) (.run [0, 1, 2, 3, 4, 5, 6, 7, 8, 9, 10, 11, 12, 13, 14, 15, 16, 17, 18, 19, 20, 21, 22, 23, 24, 25, 26, 27, 28, 29, 30, 31, 32, 33] (.done)) (by kernel_rfl) (by kernel_rfl) (by kernel_rfl) ?_; generalize hK : VS _ _ _ = KK; simp only [opsVc_run, opsVc_both, opsVc_done, opsVc_yes, pick_cons, pick_nil, List.getElem?_cons_zero, List.getElem?_cons_succ]; simp [hF, dRSp, dBool, dRShs_at hlt2, hlt', hlt2, hp]; try subst hK; try (refine VS.keep [0, 1, 2, 7, 50] ?_; generalize hK : VS _ _ _ = KK; simp; try subst hK))
        | (refine VS.region tabOk (id := 5) [] (by kernel_rfl) ?_; generalize hK : VS _ _ _ = KK; simp [hF, dRSp, dBool, dRShs_at hlt2, hlt', hlt2, hp]; try subst hK; try (refine VS.keep [6] ?_; generalize hK : VS _ _ _ = KK; simp; try subst hK))
        | (refine VS.region tabOk (id := 6) [] (by kernel_rfl) ?_; generalize hK : VS _ _ _ = KK; simp [hF, dRSp, dBool, dRShs_at hlt2, hlt', hlt2, hp]; try subst hK; try (refine VS.keep [0, 1, 2, 57] ?_; generalize hK : VS _ _ _ = KK; simp; try subst hK))
        | (refine VS.region tabOk (id := 7) [] (by kernel_rfl) ?_; generalize hK : VS _ _ _ = KK; simp [hF, dRSp, dBool, dRShs_at hlt2, hlt', hlt2, hp]; try subst hK; try (refine VS.keep [6] ?_; generalize hK : VS _ _ _ = KK; simp; try subst hK))
        | (refine VS.drawn tabOk mixedOk (id := 8) [] [⟨0, 1, 288230376151711744, 5⟩, ⟨0, 1, 576460752303423488, 5⟩, ⟨2, 576460752303423488, 1152921504606846976, 5⟩, ⟨4, 1152921504606846976, 2305843009213693952, 5⟩, ⟨8, 2305843009213693952, 4611686018427387904, 6⟩, ⟨0, 2, 9223372036854775808, 5⟩, ⟨0, 0, 18446744073709551616, 4⟩, ⟨0, 1, 36893488147419103232, 5⟩, ⟨128, 36893488147419103232, 73786976294838206464, 5⟩, ⟨256, 73786976294838206464, 147573952589676412928, 5⟩, ⟨512, 147573952589676412928, 295147905179352825856, 6⟩, ⟨0, 2, 590295810358705651712, 5⟩, ⟨3072, 885443715538058477568, 1180591620717411303424, 5⟩, ⟨4096, 1180591620717411303424, 2361183241434822606848, 5⟩, ⟨8192, 2361183241434822606848, 4722366482869645213696, 6⟩, ⟨16448, 4740813226943354765312, 9444732965739290427392, 0⟩, ⟨0, 4, 18889465931478580854784, 5⟩, ⟨65536, 18889465931478580854784, 37778931862957161709568, 4⟩, ⟨163840, 47223664828696452136960, 75557863725914323419136, 0⟩, ⟨262176, 75567087097951178194944, 151115727451828646838272, 5⟩, ⟨524288, 151115727451828646838272, 302231454903657293676544, 4⟩, ⟨1310736, 302236066589675721064448, 604462909807314587353088, 0⟩, ⟨4194303, 288230376151711744, 1208925819614629174706176, 5⟩, ⟨8388607, 1208925819614629174706176, 2417851639229258349412352, 5⟩, ⟨12582911, 3022314549036572936765440, 0, 0⟩] (.take 0 (.take 1 (.take 2 (.take 3 (.take 5 (.take 7 (.take 8 (.take 9 (.take 10 (.take 11 (.take 12 (.take 13 (.take 14 (.take 16 (.fork (.alt 4 (.fork (.alt 6 (.fork (.alt 15 (.fork (.alt 17 (.fork (.alt 18 (.take 19 (.fork (.alt 20 (.fork (.alt 21 (.take 22 (.take 23 (.fork (.alt 24 (.done) (.nil))))) (.nil))) (.nil)))) (.nil))) (.nil))) (.alt 17 (.fork (.alt 15 (.fork (.alt 18 (.take 19 (.fork (.alt 20 (.fork (.alt 21 (.take 22 (.take 23 (.fork (.alt 24 (.done) (.nil))))) (.nil))) (.nil)))) (.nil))) (.nil))) (.nil)))) (.alt 17 (.fork (.alt 6 (.fork (.alt 15 (.fork (.alt 18 (.take 19 (.fork (.alt 20 (.fork (.alt 21 (.take 22 (.take 23 (.fork (.alt 24 (.done) (.nil))))) (.nil))) (.nil)))) (.nil))) (.nil))) (.nil))) (.nil)))) (.alt 6 (.fork (.alt 4 (.fork (.alt 15 (.fork (.alt 17 (.fork (.alt 18 (.take 19 (.fork (.alt 20 (.fork (.alt 21 (.take 22 (.take 23 (.fork (.alt 24 (.done) (.nil))))) (.nil))) (.nil)))) (.nil))) (.nil))) (.alt 17 (.fork (.alt 15 (.fork (.alt 18 (.take 19 (.fork (.alt 20 (.fork (.alt 21 (.take 22 (.take 23 (.fork (.alt 24 (.done) (.nil))))) (.nil))) (.nil)))) (.nil))) (.nil))) (.nil)))) (.alt 15 (.fork (.alt 4 (.fork (.alt 17 (.fork (.alt 18 (.take 19 (.fork (.alt 20 (.fork (.alt 21 (.take 22 (.take 23 (.fork (.alt 24 (.done) (.nil))))) (.nil))) (.nil)))) (.nil))) (.nil))) (.alt 17 (.fork (.alt 4 (.fork (.alt 18 (.take 19 (.fork (.alt 20 (.fork (.alt 21 (.take 22 (.take 23 (.fork (.alt 24 (.done) (.nil))))) (.nil))) (.nil)))) (.nil))) (.alt 18 (.take 4 (.take 19 (.fork (.alt 20 (.fork (.alt 21 (.take 22 (.take 23 (.fork (.alt 24 (.done) (.nil))))) (.nil))) (.nil))))) (.nil)))) (.nil)))) (.alt 17 (.fork (.alt 4 (.fork (.alt 15 (.fork (.alt 18 (.take 19 (.fork (.alt 20 (.fork (.alt 21 (.take 22 (.take 23 (.fork (.alt 24 (.done) (.nil))))) (.nil))) (.nil)))) (.nil))) (.nil))) (.alt 15 (.fork (.alt 4 (.fork (.alt 18 (.take 19 (.fork (.alt 20 (.fork (.alt 21 (.take 22 (.take 23 (.fork (.alt 24 (.done) (.nil))))) (.nil))) (.nil)))) (.nil))) (.alt 18 (.take 4 (.take 19 (.fork (.alt 20 (.fork (.alt 21 (.take 22 (.take 23 (.fork (.alt 24 (.done) (.nil))))) (.nil))) (.nil))))) (.nil)))) (.nil)))) (.nil))))) (.alt 17 (.fork (.alt 4 (.fork (.alt 6 (.fork (.alt 15 (.fork (.alt 18 (.take 19 (.fork (.alt 20 (.fork (.alt 21 (.take 22 (.take 23 (.fork (.alt 24 (.done) (.nil))))) (.nil))) (.nil)))) (.nil))) (.nil))) (.nil))) (.alt 6 (.fork (.alt 4 (.fork (.alt 15 (.fork (.alt 18 (.take 19 (.fork (.alt 20 (.fork (.alt 21 (.take 22 (.take 23 (.fork (.alt 24 (.done) (.nil))))) (.nil))) (.nil)))) (.nil))) (.nil))) (.alt 15 (.fork (.alt 4 (.fork (.alt 18 (.take 19 (.fork (.alt 20 (.fork (.alt 21 (.take 22 (.take 23 (.fork (.alt 24 (.done) (.nil))))) (.nil))) (.nil)))) (.nil))) (.alt 18 (.take 4 (.take 19 (.fork (.alt 20 (.fork (.alt 21 (.take 22 (.take 23 (.fork (.alt 24 (.done) (.nil))))) (.nil))) (.nil))))) (.nil)))) (.nil)))) (.nil)))) (.nil))))))))))))))))))) (.run [0, 1, 2, 3, 5, 7, 8, 9, 10, 11, 12, 13, 14, 16] (.both (.run [4] (.both (.run [6] (.both (.run [15, 17, 18, 19, 20, 21, 22, 23, 24] (.done)) (.run [17, 15, 18, 19, 20, 21, 22, 23, 24] (.done)))) (.run [17, 6, 15, 18, 19, 20, 21, 22, 23, 24] (.done)))) (.both (.run [6] (.both (.run [4] (.both (.run [15, 17, 18, 19, 20, 21, 22, 23, 24] (.done)) (.run [17, 15, 18, 19, 20, 21, 22, 23, 24] (.done)))) (.both (.run [15] (.both (.run [4, 17, 18, 19, 20, 21, 22, 23, 24] (.done)) (.run [17] (.both (.run [4, 18, 19, 20, 21, 22, 23, 24] (.done)) (.run [18, 4, 19, 20, 21, 22, 23, 24] (.done)))))) (.run [17] (.both (.run [4, 15, 18, 19, 20, 21, 22, 23, 24] (.done)) (.run [15] (.both (.run [4, 18, 19, 20, 21, 22, 23, 24] (.done)) (.run [18, 4, 19, 20, 21, 22, 23, 24] (.done))))))))) (.run [17] (.both (.run [4, 6, 15, 18, 19, 20, 21, 22, 23, 24] (.done)) (.run [6] (.both (.run [4, 15, 18, 19, 20, 21, 22, 23, 24] (.done)) (.run [15] (.both (.run [4, 18, 19, 20, 21, 22, 23, 24] (.done)) (.run [18, 4, 19, 20, 21, 22, 23, 24] (.done))))))))))) (by kernel_rfl) (by kernel_rfl) (by kernel_rfl) ?_; generalize hK : VS _ _ _ = KK; simp only [opsVc_run, opsVc_both, opsVc_done, opsVc_yes, pick_cons, pick_nil, List.getElem?_cons_zero, List.getElem?_cons_succ]; simp [hF, dRSp, dBool, dRShs_at hlt2, hlt', hlt2, hp]; try subst hK; try (refine VS.keep [0] ?_; generalize hK : VS _ _ _ = KK; simp; try subst hK))
        | (refine VS.region tabOk (id := 9) [] (by kernel_rfl) ?_; generalize hK : VS _ _ _ = KK; simp [hF, dRSp, dBool, dRShs_at hlt2, hlt', hlt2, hp]; try subst hK; try (refine VS.keep [6] ?_; generalize hK : VS _ _ _ = KK; simp; try subst hK))
        | (refine VS.cond ?_; generalize hK1 : VS _ _ _ = KK1; generalize hK2 : VS _ _ _ = KK2; simp [hF, dRSp, dBool, dRShs_at hlt2, hlt', hlt2, hp]; try subst hK1; try subst hK2)
      refine nextK.of [0, 1, 2, 7] [0] (m - 1) (by omega) (by simp [hF]) ?_
      refine ⟨i + 1, by omega, next (by simp [hp]), ?_⟩
      simp [dRSp, dBool]
      exact IntWalk.i64_in _ (by omega)
  · have hb : ¬ 0 ≤ belowOf S.shapes k n := by
      have h0 : belowOf S.shapes k n = -1 := posBy_none fun j hj => hall j (by omega) hj
      omega
    repeat first
      | refine VS.seq ?_
      | refine VS.skip ?_
      | refine VS.block ?_
      | refine VS.nil ?_
      | refine blockN_normal ?_
      | refine loopN_normal ?_
      | refine VS.exit ?_
      | refine blockN_hit ?_
      | refine blockN_miss (by decide) ?_
      | refine loopN_exit ?_
      | refine ⟨⟨by omega, by omega⟩, ?_⟩
      | (refine VS.region tabOk (id := 0) [] (by kernel_rfl) ?_; generalize hK : VS _ _ _ = KK; simp [hF, dRSp, dBool]; try subst hK; try (refine VS.keep [0, 1, 2] ?_; generalize hK : VS _ _ _ = KK; simp; try subst hK))
      | (refine VS.region tabOk (id := 1) [] (by kernel_rfl) ?_; generalize hK : VS _ _ _ = KK; simp [hF, dRSp, dBool]; try subst hK; try (refine VS.keep [0, 1, 2, 7] ?_; generalize hK : VS _ _ _ = KK; simp; try subst hK))
      | (refine VS.region tabOk (id := 2) [] (by kernel_rfl) ?_; generalize hK : VS _ _ _ = KK; simp [hF, dRSp, dBool]; try subst hK; try (refine VS.keep [0, 1, 2, 7, 14] ?_; generalize hK : VS _ _ _ = KK; simp; try subst hK))
      | (refine VS.region tabOk (id := 3) [] (by kernel_rfl) ?_; generalize hK : VS _ _ _ = KK; simp [hF, dRSp, dBool]; try subst hK; try (refine VS.keep [0, 1, 2, 7] ?_; generalize hK : VS _ _ _ = KK; simp; try subst hK))
      | (refine VS.drawn tabOk mixedOk (id := 4) [(10, 27)] [⟨0, 1, 131072, 5⟩, ⟨1, 131072, 262144, 5⟩, ⟨2, 262144, 524288, 5⟩, ⟨4, 524288, 1048576, 6⟩, ⟨0, 128, 2097152, 5⟩, ⟨24, 3145728, 4194304, 5⟩, ⟨32, 4194304, 8388608, 5⟩, ⟨64, 8388608, 16777216, 6⟩, ⟨0, 2, 33554432, 5⟩, ⟨384, 50331648, 67108864, 5⟩, ⟨512, 67108864, 134217728, 5⟩, ⟨1024, 134217729, 268435456, 5⟩, ⟨3072, 402653184, 536870912, 5⟩, ⟨5120, 671088640, 1073741824, 5⟩, ⟨9216, 1207959552, 2147483648, 6⟩, ⟨1024, 134217856, 4294967296, 5⟩, ⟨50176, 6576668672, 8589934592, 5⟩, ⟨66560, 8724152320, 17179869184, 5⟩, ⟨132096, 17314086912, 34359738368, 6⟩, ⟨1024, 134217729, 68719476736, 5⟩, ⟨525312, 68853694464, 137438953472, 5⟩, ⟨1049600, 137573171200, 274877906944, 5⟩, ⟨2098176, 275012124672, 549755813888, 6⟩, ⟨1024, 134217856, 1099511627776, 5⟩, ⟨12583936, 1649401659392, 2199023255552, 5⟩, ⟨16778240, 2199157473280, 4398046511104, 5⟩, ⟨33555456, 4398180728832, 8796093022208, 6⟩, ⟨67109888, 8796227239936, 17592186044416, 5⟩, ⟨134218752, 17592320262144, 35184372088832, 5⟩, ⟨268698624, 35218866044928, 70368744177664, 5⟩, ⟨536871936, 70368878395392, 140737488355328, 6⟩, ⟨1024, 134217732, 281474976710656, 5⟩, ⟨3221226496, 422212599283712, 562949953421312, 5⟩, ⟨4294968320, 562950087639040, 1125899906842624, 5⟩] (.take 0 (.take 1 (.take 2 (.take 3 (.take 4 (.take 5 (.take 6 (.take 7 (.take 8 (.take 9 (.take 10 (.take 11 (.take 12 (.take 13 (.take 14 (.take 15 (.take 16 (.take 17 (.take 18 (.take 19 (.take 20 (.take 21 (.take 22 (.take 23 (.take 24 (.take 25 (.take 26 (.take 27 (.take 28 (.take 29 (.take 30 (.take 31 (.take 32 (.take 33 (.done))))))))))))))))))))))))))))))))))) (.run [0, 1, 2, 3, 4, 5, 6, 7, 8, 9, 10, 11, 12, 13, 14, 15, 16, 17, 18, 19, 20, 21, 22, 23, 24, 25, 26, 27, 28, 29, 30, 31, 32, 33] (.done)) (by kernel_rfl) (by kernel_rfl) (by kernel_rfl) ?_; generalize hK : VS _ _ _ = KK; simp only [opsVc_run, opsVc_both, opsVc_done, opsVc_yes, pick_cons, pick_nil, List.getElem?_cons_zero, List.getElem?_cons_succ]; simp [hF, dRSp, dBool]; try subst hK; try (refine VS.keep [0, 1, 2, 7, 50] ?_; generalize hK : VS _ _ _ = KK; simp; try subst hK))
      | (refine VS.region tabOk (id := 5) [] (by kernel_rfl) ?_; generalize hK : VS _ _ _ = KK; simp [hF, dRSp, dBool]; try subst hK; try (refine VS.keep [6] ?_; generalize hK : VS _ _ _ = KK; simp; try subst hK))
      | (refine VS.region tabOk (id := 6) [] (by kernel_rfl) ?_; generalize hK : VS _ _ _ = KK; simp [hF, dRSp, dBool]; try subst hK; try (refine VS.keep [0, 1, 2, 57] ?_; generalize hK : VS _ _ _ = KK; simp; try subst hK))
      | (refine VS.region tabOk (id := 7) [] (by kernel_rfl) ?_; generalize hK : VS _ _ _ = KK; simp [hF, dRSp, dBool]; try subst hK; try (refine VS.keep [6] ?_; generalize hK : VS _ _ _ = KK; simp; try subst hK))
      | (refine VS.drawn tabOk mixedOk (id := 8) [] [⟨0, 1, 288230376151711744, 5⟩, ⟨0, 1, 576460752303423488, 5⟩, ⟨2, 576460752303423488, 1152921504606846976, 5⟩, ⟨4, 1152921504606846976, 2305843009213693952, 5⟩, ⟨8, 2305843009213693952, 4611686018427387904, 6⟩, ⟨0, 2, 9223372036854775808, 5⟩, ⟨0, 0, 18446744073709551616, 4⟩, ⟨0, 1, 36893488147419103232, 5⟩, ⟨128, 36893488147419103232, 73786976294838206464, 5⟩, ⟨256, 73786976294838206464, 147573952589676412928, 5⟩, ⟨512, 147573952589676412928, 295147905179352825856, 6⟩, ⟨0, 2, 590295810358705651712, 5⟩, ⟨3072, 885443715538058477568, 1180591620717411303424, 5⟩, ⟨4096, 1180591620717411303424, 2361183241434822606848, 5⟩, ⟨8192, 2361183241434822606848, 4722366482869645213696, 6⟩, ⟨16448, 4740813226943354765312, 9444732965739290427392, 0⟩, ⟨0, 4, 18889465931478580854784, 5⟩, ⟨65536, 18889465931478580854784, 37778931862957161709568, 4⟩, ⟨163840, 47223664828696452136960, 75557863725914323419136, 0⟩, ⟨262176, 75567087097951178194944, 151115727451828646838272, 5⟩, ⟨524288, 151115727451828646838272, 302231454903657293676544, 4⟩, ⟨1310736, 302236066589675721064448, 604462909807314587353088, 0⟩, ⟨4194303, 288230376151711744, 1208925819614629174706176, 5⟩, ⟨8388607, 1208925819614629174706176, 2417851639229258349412352, 5⟩, ⟨12582911, 3022314549036572936765440, 0, 0⟩] (.take 0 (.take 1 (.take 2 (.take 3 (.take 5 (.take 7 (.take 8 (.take 9 (.take 10 (.take 11 (.take 12 (.take 13 (.take 14 (.take 16 (.fork (.alt 4 (.fork (.alt 6 (.fork (.alt 15 (.fork (.alt 17 (.fork (.alt 18 (.take 19 (.fork (.alt 20 (.fork (.alt 21 (.take 22 (.take 23 (.fork (.alt 24 (.done) (.nil))))) (.nil))) (.nil)))) (.nil))) (.nil))) (.alt 17 (.fork (.alt 15 (.fork (.alt 18 (.take 19 (.fork (.alt 20 (.fork (.alt 21 (.take 22 (.take 23 (.fork (.alt 24 (.done) (.nil))))) (.nil))) (.nil)))) (.nil))) (.nil))) (.nil)))) (.alt 17 (.fork (.alt 6 (.fork (.alt 15 (.fork (.alt 18 (.take 19 (.fork (.alt 20 (.fork (.alt 21 (.take 22 (.take 23 (.fork (.alt 24 (.done) (.nil))))) (.nil))) (.nil)))) (.nil))) (.nil))) (.nil))) (.nil)))) (.alt 6 (.fork (.alt 4 (.fork (.alt 15 (.fork (.alt 17 (.fork (.alt 18 (.take 19 (.fork (.alt 20 (.fork (.alt 21 (.take 22 (.take 23 (.fork (.alt 24 (.done) (.nil))))) (.nil))) (.nil)))) (.nil))) (.nil))) (.alt 17 (.fork (.alt 15 (.fork (.alt 18 (.take 19 (.fork (.alt 20 (.fork (.alt 21 (.take 22 (.take 23 (.fork (.alt 24 (.done) (.nil))))) (.nil))) (.nil)))) (.nil))) (.nil))) (.nil)))) (.alt 15 (.fork (.alt 4 (.fork (.alt 17 (.fork (.alt 18 (.take 19 (.fork (.alt 20 (.fork (.alt 21 (.take 22 (.take 23 (.fork (.alt 24 (.done) (.nil))))) (.nil))) (.nil)))) (.nil))) (.nil))) (.alt 17 (.fork (.alt 4 (.fork (.alt 18 (.take 19 (.fork (.alt 20 (.fork (.alt 21 (.take 22 (.take 23 (.fork (.alt 24 (.done) (.nil))))) (.nil))) (.nil)))) (.nil))) (.alt 18 (.take 4 (.take 19 (.fork (.alt 20 (.fork (.alt 21 (.take 22 (.take 23 (.fork (.alt 24 (.done) (.nil))))) (.nil))) (.nil))))) (.nil)))) (.nil)))) (.alt 17 (.fork (.alt 4 (.fork (.alt 15 (.fork (.alt 18 (.take 19 (.fork (.alt 20 (.fork (.alt 21 (.take 22 (.take 23 (.fork (.alt 24 (.done) (.nil))))) (.nil))) (.nil)))) (.nil))) (.nil))) (.alt 15 (.fork (.alt 4 (.fork (.alt 18 (.take 19 (.fork (.alt 20 (.fork (.alt 21 (.take 22 (.take 23 (.fork (.alt 24 (.done) (.nil))))) (.nil))) (.nil)))) (.nil))) (.alt 18 (.take 4 (.take 19 (.fork (.alt 20 (.fork (.alt 21 (.take 22 (.take 23 (.fork (.alt 24 (.done) (.nil))))) (.nil))) (.nil))))) (.nil)))) (.nil)))) (.nil))))) (.alt 17 (.fork (.alt 4 (.fork (.alt 6 (.fork (.alt 15 (.fork (.alt 18 (.take 19 (.fork (.alt 20 (.fork (.alt 21 (.take 22 (.take 23 (.fork (.alt 24 (.done) (.nil))))) (.nil))) (.nil)))) (.nil))) (.nil))) (.nil))) (.alt 6 (.fork (.alt 4 (.fork (.alt 15 (.fork (.alt 18 (.take 19 (.fork (.alt 20 (.fork (.alt 21 (.take 22 (.take 23 (.fork (.alt 24 (.done) (.nil))))) (.nil))) (.nil)))) (.nil))) (.nil))) (.alt 15 (.fork (.alt 4 (.fork (.alt 18 (.take 19 (.fork (.alt 20 (.fork (.alt 21 (.take 22 (.take 23 (.fork (.alt 24 (.done) (.nil))))) (.nil))) (.nil)))) (.nil))) (.alt 18 (.take 4 (.take 19 (.fork (.alt 20 (.fork (.alt 21 (.take 22 (.take 23 (.fork (.alt 24 (.done) (.nil))))) (.nil))) (.nil))))) (.nil)))) (.nil)))) (.nil)))) (.nil))))))))))))))))))) (.run [0, 1, 2, 3, 5, 7, 8, 9, 10, 11, 12, 13, 14, 16] (.both (.run [4] (.both (.run [6] (.both (.run [15, 17, 18, 19, 20, 21, 22, 23, 24] (.done)) (.run [17, 15, 18, 19, 20, 21, 22, 23, 24] (.done)))) (.run [17, 6, 15, 18, 19, 20, 21, 22, 23, 24] (.done)))) (.both (.run [6] (.both (.run [4] (.both (.run [15, 17, 18, 19, 20, 21, 22, 23, 24] (.done)) (.run [17, 15, 18, 19, 20, 21, 22, 23, 24] (.done)))) (.both (.run [15] (.both (.run [4, 17, 18, 19, 20, 21, 22, 23, 24] (.done)) (.run [17] (.both (.run [4, 18, 19, 20, 21, 22, 23, 24] (.done)) (.run [18, 4, 19, 20, 21, 22, 23, 24] (.done)))))) (.run [17] (.both (.run [4, 15, 18, 19, 20, 21, 22, 23, 24] (.done)) (.run [15] (.both (.run [4, 18, 19, 20, 21, 22, 23, 24] (.done)) (.run [18, 4, 19, 20, 21, 22, 23, 24] (.done))))))))) (.run [17] (.both (.run [4, 6, 15, 18, 19, 20, 21, 22, 23, 24] (.done)) (.run [6] (.both (.run [4, 15, 18, 19, 20, 21, 22, 23, 24] (.done)) (.run [15] (.both (.run [4, 18, 19, 20, 21, 22, 23, 24] (.done)) (.run [18, 4, 19, 20, 21, 22, 23, 24] (.done))))))))))) (by kernel_rfl) (by kernel_rfl) (by kernel_rfl) ?_; generalize hK : VS _ _ _ = KK; simp only [opsVc_run, opsVc_both, opsVc_done, opsVc_yes, pick_cons, pick_nil, List.getElem?_cons_zero, List.getElem?_cons_succ]; simp [hF, dRSp, dBool]; try subst hK; try (refine VS.keep [0] ?_; generalize hK : VS _ _ _ = KK; simp; try subst hK))
      | (refine VS.region tabOk (id := 9) [] (by kernel_rfl) ?_; generalize hK : VS _ _ _ = KK; simp [hF, dRSp, dBool]; try subst hK; try (refine VS.keep [6] ?_; generalize hK : VS _ _ _ = KK; simp; try subst hK))
      | (refine VS.cond ?_; generalize hK1 : VS _ _ _ = KK1; generalize hK2 : VS _ _ _ = KK2; simp [hF, dRSp, dBool]; try subst hK1; try subst hK2)
    refine ⟨fun h2 => ?_, fun h2 => ?_⟩
    · have h2' : 200 ≤ S.shapes.length := by omega
      repeat first
        | refine VS.seq ?_
        | refine VS.skip ?_
        | refine VS.block ?_
        | refine VS.nil ?_
        | refine blockN_normal ?_
        | refine loopN_normal ?_
        | refine VS.exit ?_
        | refine blockN_hit ?_
        | refine blockN_miss (by decide) ?_
        | refine loopN_exit ?_
        | refine ⟨⟨by omega, by omega⟩, ?_⟩
        | (refine VS.region tabOk (id := 0) [] (by kernel_rfl) ?_; generalize hK : VS _ _ _ = KK; simp [hF]; try subst hK; try (refine VS.keep [0, 1, 2] ?_; generalize hK : VS _ _ _ = KK; simp; try subst hK))
        | (refine VS.region tabOk (id := 1) [] (by kernel_rfl) ?_; generalize hK : VS _ _ _ = KK; simp [hF]; try subst hK; try (refine VS.keep [0, 1, 2, 7] ?_; generalize hK : VS _ _ _ = KK; simp; try subst hK))
        | (refine VS.region tabOk (id := 2) [] (by kernel_rfl) ?_; generalize hK : VS _ _ _ = KK; simp [hF]; try subst hK; try (refine VS.keep [0, 1, 2, 7, 14] ?_; generalize hK : VS _ _ _ = KK; simp; try subst hK))
        | (refine VS.region tabOk (id := 3) [] (by kernel_rfl) ?_; generalize hK : VS _ _ _ = KK; simp [hF]; try subst hK; try (refine VS.keep [0, 1, 2, 7] ?_; generalize hK : VS _ _ _ = KK; simp; try subst hK))
        | (refine VS.drawn tabOk mixedOk (id := 4) [(10, 27)] [⟨0, 1, 131072, 5⟩, ⟨1, 131072, 262144, 5⟩, ⟨2, 262144, 524288, 5⟩, ⟨4, 524288, 1048576, 6⟩, ⟨0, 128, 2097152, 5⟩, ⟨24, 3145728, 4194304, 5⟩, ⟨32, 4194304, 8388608, 5⟩, ⟨64, 8388608, 16777216, 6⟩, ⟨0, 2, 33554432, 5⟩, ⟨384, 50331648, 67108864, 5⟩, ⟨512, 67108864, 134217728, 5⟩, ⟨1024, 134217729, 268435456, 5⟩, ⟨3072, 402653184, 536870912, 5⟩, ⟨5120, 671088640, 1073741824, 5⟩, ⟨9216, 1207959552, 2147483648, 6⟩, ⟨1024, 134217856, 4294967296, 5⟩, ⟨50176, 6576668672, 8589934592, 5⟩, ⟨66560, 8724152320, 17179869184, 5⟩, ⟨132096, 17314086912, 34359738368, 6⟩, ⟨1024, 134217729, 68719476736, 5⟩, ⟨525312, 68853694464, 137438953472, 5⟩, ⟨1049600, 137573171200, 274877906944, 5⟩, ⟨2098176, 275012124672, 549755813888, 6⟩, ⟨1024, 134217856, 1099511627776, 5⟩, ⟨12583936, 1649401659392, 2199023255552, 5⟩, ⟨16778240, 2199157473280, 4398046511104, 5⟩, ⟨33555456, 4398180728832, 8796093022208, 6⟩, ⟨67109888, 8796227239936, 17592186044416, 5⟩, ⟨134218752, 17592320262144, 35184372088832, 5⟩, ⟨268698624, 35218866044928, 70368744177664, 5⟩, ⟨536871936, 70368878395392, 140737488355328, 6⟩, ⟨1024, 134217732, 281474976710656, 5⟩, ⟨3221226496, 422212599283712, 562949953421312, 5⟩, ⟨4294968320, 562950087639040, 1125899906842624, 5⟩] (.take 0 (.take 1 (.take 2 (.take 3 (.take 4 (.take 5 (.take 6 (.take 7 (.take 8 (.take 9 (.take 10 (.take 11 (.take 12 (.take 13 (.take 14 (.take 15 (.take 16 (.take 17 (.take 18 (.take 19 (.take 20 (.take 21 (.take 22 (.take 23 (.take 24 (.take 25 (.take 26 (.take 27 (.take 28 (.take 29 (.take 30 (.take 31 (.take 32 (.take 33 (.done))))))))))))))))))))))))))))))))))) (.run [0, 1, 2, 3, 4, 5, 6, 7, 8, 9, 10, 11, 12, 13, 14, 15, 16, 17, 18, 19, 20, 21, 22, 23, 24, 25, 26, 27, 28, 29, 30, 31, 32, 33] (.done)) (by kernel_rfl) (by kernel_rfl) (by kernel_rfl) ?_; generalize hK : VS _ _ _ = KK; simp only [opsVc_run, opsVc_both, opsVc_done, opsVc_yes, pick_cons, pick_nil, List.getElem?_cons_zero, List.getElem?_cons_succ]; simp [hF]; try subst hK; try (refine VS.keep [0, 1, 2, 7, 50] ?_; generalize hK : VS _ _ _ = KK; simp; try subst hK))
        | (refine VS.region tabOk (id := 5) [] (by kernel_rfl) ?_; generalize hK : VS _ _ _ = KK; simp [hF]; try subst hK; try (refine VS.keep [6] ?_; generalize hK : VS _ _ _ = KK; simp; try subst hK))
        | (refine VS.region tabOk (id := 6) [] (by kernel_rfl) ?_; generalize hK : VS _ _ _ = KK; simp [hF]; try subst hK; try (refine VS.keep [0, 1, 2, 57] ?_; generalize hK : VS _ _ _ = KK; simp; try subst hK))
        | (refine VS.region tabOk (id := 7) [] (by kernel_rfl) ?_; generalize hK : VS _ _ _ = KK; simp [hF]; try subst hK; try (refine VS.keep [6] ?_; generalize hK : VS _ _ _ = KK; simp; try subst hK))
        | (refine VS.drawn tabOk mixedOk (id := 8) [] [⟨0, 1, 288230376151711744, 5⟩, ⟨0, 1, 576460752303423488, 5⟩, ⟨2, 576460752303423488, 1152921504606846976, 5⟩, ⟨4, 1152921504606846976, 2305843009213693952, 5⟩, ⟨8, 2305843009213693952, 4611686018427387904, 6⟩, ⟨0, 2, 9223372036854775808, 5⟩, ⟨0, 0, 18446744073709551616, 4⟩, ⟨0, 1, 36893488147419103232, 5⟩, ⟨128, 36893488147419103232, 73786976294838206464, 5⟩, ⟨256, 73786976294838206464, 147573952589676412928, 5⟩, ⟨512, 147573952589676412928, 295147905179352825856, 6⟩, ⟨0, 2, 590295810358705651712, 5⟩, ⟨3072, 885443715538058477568, 1180591620717411303424, 5⟩, ⟨4096, 1180591620717411303424, 2361183241434822606848, 5⟩, ⟨8192, 2361183241434822606848, 4722366482869645213696, 6⟩, ⟨16448, 4740813226943354765312, 9444732965739290427392, 0⟩, ⟨0, 4, 18889465931478580854784, 5⟩, ⟨65536, 18889465931478580854784, 37778931862957161709568, 4⟩, ⟨163840, 47223664828696452136960, 75557863725914323419136, 0⟩, ⟨262176, 75567087097951178194944, 151115727451828646838272, 5⟩, ⟨524288, 151115727451828646838272, 302231454903657293676544, 4⟩, ⟨1310736, 302236066589675721064448, 604462909807314587353088, 0⟩, ⟨4194303, 288230376151711744, 1208925819614629174706176, 5⟩, ⟨8388607, 1208925819614629174706176, 2417851639229258349412352, 5⟩, ⟨12582911, 3022314549036572936765440, 0, 0⟩] (.take 0 (.take 1 (.take 2 (.take 3 (.take 5 (.take 7 (.take 8 (.take 9 (.take 10 (.take 11 (.take 12 (.take 13 (.take 14 (.take 16 (.fork (.alt 4 (.fork (.alt 6 (.fork (.alt 15 (.fork (.alt 17 (.fork (.alt 18 (.take 19 (.fork (.alt 20 (.fork (.alt 21 (.take 22 (.take 23 (.fork (.alt 24 (.done) (.nil))))) (.nil))) (.nil)))) (.nil))) (.nil))) (.alt 17 (.fork (.alt 15 (.fork (.alt 18 (.take 19 (.fork (.alt 20 (.fork (.alt 21 (.take 22 (.take 23 (.fork (.alt 24 (.done) (.nil))))) (.nil))) (.nil)))) (.nil))) (.nil))) (.nil)))) (.alt 17 (.fork (.alt 6 (.fork (.alt 15 (.fork (.alt 18 (.take 19 (.fork (.alt 20 (.fork (.alt 21 (.take 22 (.take 23 (.fork (.alt 24 (.done) (.nil))))) (.nil))) (.nil)))) (.nil))) (.nil))) (.nil))) (.nil)))) (.alt 6 (.fork (.alt 4 (.fork (.alt 15 (.fork (.alt 17 (.fork (.alt 18 (.take 19 (.fork (.alt 20 (.fork (.alt 21 (.take 22 (.take 23 (.fork (.alt 24 (.done) (.nil))))) (.nil))) (.nil)))) (.nil))) (.nil))) (.alt 17 (.fork (.alt 15 (.fork (.alt 18 (.take 19 (.fork (.alt 20 (.fork (.alt 21 (.take 22 (.take 23 (.fork (.alt 24 (.done) (.nil))))) (.nil))) (.nil)))) (.nil))) (.nil))) (.nil)))) (.alt 15 (.fork (.alt 4 (.fork (.alt 17 (.fork (.alt 18 (.take 19 (.fork (.alt 20 (.fork (.alt 21 (.take 22 (.take 23 (.fork (.alt 24 (.done) (.nil))))) (.nil))) (.nil)))) (.nil))) (.nil))) (.alt 17 (.fork (.alt 4 (.fork (.alt 18 (.take 19 (.fork (.alt 20 (.fork (.alt 21 (.take 22 (.take 23 (.fork (.alt 24 (.done) (.nil))))) (.nil))) (.nil)))) (.nil))) (.alt 18 (.take 4 (.take 19 (.fork (.alt 20 (.fork (.alt 21 (.take 22 (.take 23 (.fork (.alt 24 (.done) (.nil))))) (.nil))) (.nil))))) (.nil)))) (.nil)))) (.alt 17 (.fork (.alt 4 (.fork (.alt 15 (.fork (.alt 18 (.take 19 (.fork (.alt 20 (.fork (.alt 21 (.take 22 (.take 23 (.fork (.alt 24 (.done) (.nil))))) (.nil))) (.nil)))) (.nil))) (.nil))) (.alt 15 (.fork (.alt 4 (.fork (.alt 18 (.take 19 (.fork (.alt 20 (.fork (.alt 21 (.take 22 (.take 23 (.fork (.alt 24 (.done) (.nil))))) (.nil))) (.nil)))) (.nil))) (.alt 18 (.take 4 (.take 19 (.fork (.alt 20 (.fork (.alt 21 (.take 22 (.take 23 (.fork (.alt 24 (.done) (.nil))))) (.nil))) (.nil))))) (.nil)))) (.nil)))) (.nil))))) (.alt 17 (.fork (.alt 4 (.fork (.alt 6 (.fork (.alt 15 (.fork (.alt 18 (.take 19 (.fork (.alt 20 (.fork (.alt 21 (.take 22 (.take 23 (.fork (.alt 24 (.done) (.nil))))) (.nil))) (.nil)))) (.nil))) (.nil))) (.nil))) (.alt 6 (.fork (.alt 4 (.fork (.alt 15 (.fork (.alt 18 (.take 19 (.fork (.alt 20 (.fork (.alt 21 (.take 22 (.take 23 (.fork (.alt 24 (.done) (.nil))))) (.nil))) (.nil)))) (.nil))) (.nil))) (.alt 15 (.fork (.alt 4 (.fork (.alt 18 (.take 19 (.fork (.alt 20 (.fork (.alt 21 (.take 22 (.take 23 (.fork (.alt 24 (.done) (.nil))))) (.nil))) (.nil)))) (.nil))) (.alt 18 (.take 4 (.take 19 (.fork (.alt 20 (.fork (.alt 21 (.take 22 (.take 23 (.fork (.alt 24 (.done) (.nil))))) (.nil))) (.nil))))) (.nil)))) (.nil)))) (.nil)))) (.nil))))))))))))))))))) (.run [0, 1, 2, 3, 5, 7, 8, 9, 10, 11, 12, 13, 14, 16] (.both (.run [4] (.both (.run [6] (.both (.run [15, 17, 18, 19, 20, 21, 22, 23, 24] (.done)) (.run [17, 15, 18, 19, 20, 21, 22, 23, 24] (.done)))) (.run [17, 6, 15, 18, 19, 20, 21, 22, 23, 24] (.done)))) (.both (.run [6] (.both (.run [4] (.both (.run [15, 17, 18, 19, 20, 21, 22, 23, 24] (.done)) (.run [17, 15, 18, 19, 20, 21, 22, 23, 24] (.done)))) (.both (.run [15] (.both (.run [4, 17, 18, 19, 20, 21, 22, 23, 24] (.done)) (.run [17] (.both (.run [4, 18, 19, 20, 21, 22, 23, 24] (.done)) (.run [18, 4, 19, 20, 21, 22, 23, 24] (.done)))))) (.run [17] (.both (.run [4, 15, 18, 19, 20, 21, 22, 23, 24] (.done)) (.run [15] (.both (.run [4, 18, 19, 20, 21, 22, 23, 24] (.done)) (.run [18, 4, 19, 20, 21, 22, 23, 24] (.done))))))))) (.run [17] (.both (.run [4, 6, 15, 18, 19, 20, 21, 22, 23, 24] (.done)) (.run [6] (.both (.run [4, 15, 18, 19, 20, 21, 22, 23, 24] (.done)) (.run [15] (.both (.run [4, 18, 19, 20, 21, 22, 23, 24] (.done)) (.run [18, 4, 19, 20, 21, 22, 23, 24] (.done))))))))))) (by kernel_rfl) (by kernel_rfl) (by kernel_rfl) ?_; generalize hK : VS _ _ _ = KK; simp only [opsVc_run, opsVc_both, opsVc_done, opsVc_yes, pick_cons, pick_nil, List.getElem?_cons_zero, List.getElem?_cons_succ]; simp [hF]; try subst hK; try (refine VS.keep [0] ?_; generalize hK : VS _ _ _ = KK; simp; try subst hK))
        | (refine VS.region tabOk (id := 9) [] (by kernel_rfl) ?_; generalize hK : VS _ _ _ = KK; simp [hF]; try subst hK; try (refine VS.keep [6] ?_; generalize hK : VS _ _ _ = KK; simp; try subst hK))
        | (refine VS.cond ?_; generalize hK1 : VS _ _ _ = KK1; generalize hK2 : VS _ _ _ = KK2; simp [hF]; try subst hK1; try subst hK2)
      try refine VS.ret ?_
      repeat first | refine blockN_ret ?_ | refine loopN_ret ?_
      refine endK.of [6] [0] [(0, [.d, .f 1])] (by simp [hF]) (by simp [covers, mpre]) ?_
      simp [hF, retK, dRSp, dBool, rbelow, hb, h2']
    · have h2' : ¬ 200 ≤ S.shapes.length := by omega
      have hk' : (k : Int) < S.shapes.length := by omega
      have hd := hS.deep k hk
      have hpush := dRShs_push S.shapes ⟨(k : Int), S.shapes[k].names ++ [n]⟩
      have hw : IntKind.i64.wrap (S.shapes.length : Int) = S.shapes.length := IntWalk.i64_in _ (by omega)
      refine VS.lift 0 [.d, .f 1] (by simp [hF]) (by simp [hF]) (by simp [isNode]) (by simp [hF]) ?_
      generalize hK : VS _ _ _ = KK; simp [hF, St.lift, AV.lift, liftPl, stripP, nodeAV]; try subst hK
      repeat' first
        | refine VS.seq ?_
        | refine VS.skip ?_
        | refine VS.block ?_
        | refine VS.nil ?_
        | refine blockN_normal ?_
        | refine loopN_normal ?_
        | refine VS.exit ?_
        | refine blockN_hit ?_
        | refine blockN_miss (by decide) ?_
        | refine loopN_exit ?_
        | refine ⟨⟨by omega, by omega⟩, ?_⟩
        | (refine VS.region tabOk (id := 0) [] (by kernel_rfl) ?_; generalize hK : VS _ _ _ = KK; simp [hF, dRSp, dBool, dRShs_at hk, hk, hk', hpush, dStrs_nil]; try subst hK; try (refine VS.keep [0, 1, 2] ?_; generalize hK : VS _ _ _ = KK; simp; try subst hK))
        | (refine VS.region tabOk (id := 1) [] (by kernel_rfl) ?_; generalize hK : VS _ _ _ = KK; simp [hF, dRSp, dBool, dRShs_at hk, hk, hk', hpush, dStrs_nil]; try subst hK; try (refine VS.keep [0, 1, 2, 7] ?_; generalize hK : VS _ _ _ = KK; simp; try subst hK))
        | (refine VS.region tabOk (id := 2) [] (by kernel_rfl) ?_; generalize hK : VS _ _ _ = KK; simp [hF, dRSp, dBool, dRShs_at hk, hk, hk', hpush, dStrs_nil]; try subst hK; try (refine VS.keep [0, 1, 2, 7, 14] ?_; generalize hK : VS _ _ _ = KK; simp; try subst hK))
        | (refine VS.region tabOk (id := 3) [] (by kernel_rfl) ?_; generalize hK : VS _ _ _ = KK; simp [hF, dRSp, dBool, dRShs_at hk, hk, hk', hpush, dStrs_nil]; try subst hK; try (refine VS.keep [0, 1, 2, 7] ?_; generalize hK : VS _ _ _ = KK; simp; try subst hK))
        | (refine VS.drawn tabOk mixedOk (id := 4) [(10, 27)] [⟨0, 1, 131072, 5⟩, ⟨1, 131072, 262144, 5⟩, ⟨2, 262144, 524288, 5⟩, ⟨4, 524288, 1048576, 6⟩, ⟨0, 128, 2097152, 5⟩, ⟨24, 3145728, 4194304, 5⟩, ⟨32, 4194304, 8388608, 5⟩, ⟨64, 8388608, 16777216, 6⟩, ⟨0, 2, 33554432, 5⟩, ⟨384, 50331648, 67108864, 5⟩, ⟨512, 67108864, 134217728, 5⟩, ⟨1024, 134217729, 268435456, 5⟩, ⟨3072, 402653184, 536870912, 5⟩, ⟨5120, 671088640, 1073741824, 5⟩, ⟨9216, 1207959552, 2147483648, 6⟩, ⟨1024, 134217856, 4294967296, 5⟩, ⟨50176, 6576668672, 8589934592, 5⟩, ⟨66560, 8724152320, 17179869184, 5⟩, ⟨132096, 17314086912, 34359738368, 6⟩, ⟨1024, 134217729, 68719476736, 5⟩, ⟨525312, 68853694464, 137438953472, 5⟩, ⟨1049600, 137573171200, 274877906944, 5⟩, ⟨2098176, 275012124672, 549755813888, 6⟩, ⟨1024, 134217856, 1099511627776, 5⟩, ⟨12583936, 1649401659392, 2199023255552, 5⟩, ⟨16778240, 2199157473280, 4398046511104, 5⟩, ⟨33555456, 4398180728832, 8796093022208, 6⟩, ⟨67109888, 8796227239936, 17592186044416, 5⟩, ⟨134218752, 17592320262144, 35184372088832, 5⟩, ⟨268698624, 35218866044928, 70368744177664, 5⟩, ⟨536871936, 70368878395392, 140737488355328, 6⟩, ⟨1024, 134217732, 281474976710656, 5⟩, ⟨3221226496, 422212599283712, 562949953421312, 5⟩, ⟨4294968320, 562950087639040, 1125899906842624, 5⟩] (.take 0 (.take 1 (.take 2 (.take 3 (.take 4 (.take 5 (.take 6 (.take 7 (.take 8 (.take 9 (.take 10 (.take 11 (.take 12 (.take 13 (.take 14 (.take 15 (.take 16 (.take 17 (.take 18 (.take 19 (.take 20 (.take 21 (.take 22 (.take 23 (.take 24 (.take 25 (.take 26 (.take 27 (.take 28 (.take 29 (.take 30 (.take 31 (.take 32 (.take 33 (.done))))))))))))))))))))))))))))))))))) (.run [0, 1, 2, 3, 4, 5, 6, 7, 8, 9, 10, 11, 12, 13, 14, 15, 16, 17, 18, 19, 20, 21, 22, 23, 24, 25, 26, 27, 28, 29, 30, 31, 32, 33] (.done)) (by kernel_rfl) (by kernel_rfl) (by kernel_rfl) ?_; generalize hK : VS _ _ _ = KK; simp only [opsVc_run, opsVc_both, opsVc_done, opsVc_yes, pick_cons, pick_nil, List.getElem?_cons_zero, List.getElem?_cons_succ]; simp [hF, dRSp, dBool, dRShs_at hk, hk, hk', hpush, dStrs_nil]; try subst hK; try (refine VS.keep [0, 1, 2, 7, 50] ?_; generalize hK : VS _ _ _ = KK; simp; try subst hK))
        | (refine VS.region tabOk (id := 5) [] (by kernel_rfl) ?_; generalize hK : VS _ _ _ = KK; simp [hF, dRSp, dBool, dRShs_at hk, hk, hk', hpush, dStrs_nil]; try subst hK; try (refine VS.keep [6] ?_; generalize hK : VS _ _ _ = KK; simp; try subst hK))
        | (refine VS.region tabOk (id := 6) [] (by kernel_rfl) ?_; generalize hK : VS _ _ _ = KK; simp [hF, dRSp, dBool, dRShs_at hk, hk, hk', hpush, dStrs_nil]; try subst hK; try (refine VS.keep [0, 1, 2, 57] ?_; generalize hK : VS _ _ _ = KK; simp; try subst hK))
        | (refine VS.region tabOk (id := 7) [] (by kernel_rfl) ?_; generalize hK : VS _ _ _ = KK; simp [hF, dRSp, dBool, dRShs_at hk, hk, hk', hpush, dStrs_nil]; try subst hK; try (refine VS.keep [6] ?_; generalize hK : VS _ _ _ = KK; simp; try subst hK))
        | (refine VS.drawn tabOk mixedOk (id := 8) [] [⟨0, 1, 288230376151711744, 5⟩, ⟨0, 1, 576460752303423488, 5⟩, ⟨2, 576460752303423488, 1152921504606846976, 5⟩, ⟨4, 1152921504606846976, 2305843009213693952, 5⟩, ⟨8, 2305843009213693952, 4611686018427387904, 6⟩, ⟨0, 2, 9223372036854775808, 5⟩, ⟨0, 0, 18446744073709551616, 4⟩, ⟨0, 1, 36893488147419103232, 5⟩, ⟨128, 36893488147419103232, 73786976294838206464, 5⟩, ⟨256, 73786976294838206464, 147573952589676412928, 5⟩, ⟨512, 147573952589676412928, 295147905179352825856, 6⟩, ⟨0, 2, 590295810358705651712, 5⟩, ⟨3072, 885443715538058477568, 1180591620717411303424, 5⟩, ⟨4096, 1180591620717411303424, 2361183241434822606848, 5⟩, ⟨8192, 2361183241434822606848, 4722366482869645213696, 6⟩, ⟨16448, 4740813226943354765312, 9444732965739290427392, 0⟩, ⟨0, 4, 18889465931478580854784, 5⟩, ⟨65536, 18889465931478580854784, 37778931862957161709568, 4⟩, ⟨163840, 47223664828696452136960, 75557863725914323419136, 0⟩, ⟨262176, 75567087097951178194944, 151115727451828646838272, 5⟩, ⟨524288, 151115727451828646838272, 302231454903657293676544, 4⟩, ⟨1310736, 302236066589675721064448, 604462909807314587353088, 0⟩, ⟨4194303, 288230376151711744, 1208925819614629174706176, 5⟩, ⟨8388607, 1208925819614629174706176, 2417851639229258349412352, 5⟩, ⟨12582911, 3022314549036572936765440, 0, 0⟩] (.take 0 (.take 1 (.take 2 (.take 3 (.take 5 (.take 7 (.take 8 (.take 9 (.take 10 (.take 11 (.take 12 (.take 13 (.take 14 (.take 16 (.fork (.alt 4 (.fork (.alt 6 (.fork (.alt 15 (.fork (.alt 17 (.fork (.alt 18 (.take 19 (.fork (.alt 20 (.fork (.alt 21 (.take 22 (.take 23 (.fork (.alt 24 (.done) (.nil))))) (.nil))) (.nil)))) (.nil))) (.nil))) (.alt 17 (.fork (.alt 15 (.fork (.alt 18 (.take 19 (.fork (.alt 20 (.fork (.alt 21 (.take 22 (.take 23 (.fork (.alt 24 (.done) (.nil))))) (.nil))) (.nil)))) (.nil))) (.nil))) (.nil)))) (.alt 17 (.fork (.alt 6 (.fork (.alt 15 (.fork (.alt 18 (.take 19 (.fork (.alt 20 (.fork (.alt 21 (.take 22 (.take 23 (.fork (.alt 24 (.done) (.nil))))) (.nil))) (.nil)))) (.nil))) (.nil))) (.nil))) (.nil)))) (.alt 6 (.fork (.alt 4 (.fork (.alt 15 (.fork (.alt 17 (.fork (.alt 18 (.take 19 (.fork (.alt 20 (.fork (.alt 21 (.take 22 (.take 23 (.fork (.alt 24 (.done) (.nil))))) (.nil))) (.nil)))) (.nil))) (.nil))) (.alt 17 (.fork (.alt 15 (.fork (.alt 18 (.take 19 (.fork (.alt 20 (.fork (.alt 21 (.take 22 (.take 23 (.fork (.alt 24 (.done) (.nil))))) (.nil))) (.nil)))) (.nil))) (.nil))) (.nil)))) (.alt 15 (.fork (.alt 4 (.fork (.alt 17 (.fork (.alt 18 (.take 19 (.fork (.alt 20 (.fork (.alt 21 (.take 22 (.take 23 (.fork (.alt 24 (.done) (.nil))))) (.nil))) (.nil)))) (.nil))) (.nil))) (.alt 17 (.fork (.alt 4 (.fork (.alt 18 (.take 19 (.fork (.alt 20 (.fork (.alt 21 (.take 22 (.take 23 (.fork (.alt 24 (.done) (.nil))))) (.nil))) (.nil)))) (.nil))) (.alt 18 (.take 4 (.take 19 (.fork (.alt 20 (.fork (.alt 21 (.take 22 (.take 23 (.fork (.alt 24 (.done) (.nil))))) (.nil))) (.nil))))) (.nil)))) (.nil)))) (.alt 17 (.fork (.alt 4 (.fork (.alt 15 (.fork (.alt 18 (.take 19 (.fork (.alt 20 (.fork (.alt 21 (.take 22 (.take 23 (.fork (.alt 24 (.done) (.nil))))) (.nil))) (.nil)))) (.nil))) (.nil))) (.alt 15 (.fork (.alt 4 (.fork (.alt 18 (.take 19 (.fork (.alt 20 (.fork (.alt 21 (.take 22 (.take 23 (.fork (.alt 24 (.done) (.nil))))) (.nil))) (.nil)))) (.nil))) (.alt 18 (.take 4 (.take 19 (.fork (.alt 20 (.fork (.alt 21 (.take 22 (.take 23 (.fork (.alt 24 (.done) (.nil))))) (.nil))) (.nil))))) (.nil)))) (.nil)))) (.nil))))) (.alt 17 (.fork (.alt 4 (.fork (.alt 6 (.fork (.alt 15 (.fork (.alt 18 (.take 19 (.fork (.alt 20 (.fork (.alt 21 (.take 22 (.take 23 (.fork (.alt 24 (.done) (.nil))))) (.nil))) (.nil)))) (.nil))) (.nil))) (.nil))) (.alt 6 (.fork (.alt 4 (.fork (.alt 15 (.fork (.alt 18 (.take 19 (.fork (.alt 20 (.fork (.alt 21 (.take 22 (.take 23 (.fork (.alt 24 (.done) (.nil))))) (.nil))) (.nil)))) (.nil))) (.nil))) (.alt 15 (.fork (.alt 4 (.fork (.alt 18 (.take 19 (.fork (.alt 20 (.fork (.alt 21 (.take 22 (.take 23 (.fork (.alt 24 (.done) (.nil))))) (.nil))) (.nil)))) (.nil))) (.alt 18 (.take 4 (.take 19 (.fork (.alt 20 (.fork (.alt 21 (.take 22 (.take 23 (.fork (.alt 24 (.done) (.nil))))) (.nil))) (.nil))))) (.nil)))) (.nil)))) (.nil)))) (.nil))))))))))))))))))) (.run [0, 1, 2, 3, 5, 7, 8, 9, 10, 11, 12, 13, 14, 16] (.both (.run [4] (.both (.run [6] (.both (.run [15, 17, 18, 19, 20, 21, 22, 23, 24] (.done)) (.run [17, 15, 18, 19, 20, 21, 22, 23, 24] (.done)))) (.run [17, 6, 15, 18, 19, 20, 21, 22, 23, 24] (.done)))) (.both (.run [6] (.both (.run [4] (.both (.run [15, 17, 18, 19, 20, 21, 22, 23, 24] (.done)) (.run [17, 15, 18, 19, 20, 21, 22, 23, 24] (.done)))) (.both (.run [15] (.both (.run [4, 17, 18, 19, 20, 21, 22, 23, 24] (.done)) (.run [17] (.both (.run [4, 18, 19, 20, 21, 22, 23, 24] (.done)) (.run [18, 4, 19, 20, 21, 22, 23, 24] (.done)))))) (.run [17] (.both (.run [4, 15, 18, 19, 20, 21, 22, 23, 24] (.done)) (.run [15] (.both (.run [4, 18, 19, 20, 21, 22, 23, 24] (.done)) (.run [18, 4, 19, 20, 21, 22, 23, 24] (.done))))))))) (.run [17] (.both (.run [4, 6, 15, 18, 19, 20, 21, 22, 23, 24] (.done)) (.run [6] (.both (.run [4, 15, 18, 19, 20, 21, 22, 23, 24] (.done)) (.run [15] (.both (.run [4, 18, 19, 20, 21, 22, 23, 24] (.done)) (.run [18, 4, 19, 20, 21, 22, 23, 24] (.done))))))))))) (by kernel_rfl) (by kernel_rfl) (by kernel_rfl) ?_; generalize hK : VS _ _ _ = KK; simp only [opsVc_run, opsVc_both, opsVc_done, opsVc_yes, pick_cons, pick_nil, List.getElem?_cons_zero, List.getElem?_cons_succ]; simp [hF, dRSp, dBool, dRShs_at hk, hk, hk', hpush, dStrs_nil]; try subst hK; try (refine VS.keep [0] ?_; generalize hK : VS _ _ _ = KK; simp; try subst hK))
        | (refine VS.region tabOk (id := 9) [] (by kernel_rfl) ?_; generalize hK : VS _ _ _ = KK; simp [hF, dRSp, dBool, dRShs_at hk, hk, hk', hpush, dStrs_nil]; try subst hK; try (refine VS.keep [6] ?_; generalize hK : VS _ _ _ = KK; simp; try subst hK))
        | (refine VS.cond ?_; generalize hK1 : VS _ _ _ = KK1; generalize hK2 : VS _ _ _ = KK2; simp [hF, dRSp, dBool, dRShs_at hk, hk, hk', hpush, dStrs_nil]; try subst hK1; try subst hK2)
        | refine And.intro (fun _ => ?_) (fun _ => ?_)
        | refine And.intro ?_ ?_
        | refine fun _ => ?_
      all_goals try refine VS.ret ?_
      all_goals repeat first | refine blockN_ret ?_ | refine loopN_ret ?_
      all_goals refine endK.of [6] [0] [(0, [.d, .f 1])] (by simp [hF]) (by simp [covers, mpre]) ?_
      all_goals simp [hF, retK, dRSp, dBool, rbelow, hb, h2', hk, hw]

abbrev putK : List (Nat × Path) := [(0, [.d, .f 1]), (0, [.d, .f 2, .i 0, .f 1]), (0, [.d, .f 2, .i 0, .f 2])]

/- (*cabochon/cabochonref20.Space).put -/
theorem put_ok (S : Sp) (hS : ShOk S.shapes) (j : Nat) (hj : j < S.objs.length) {N : Nat} (ho : ObOk S.shapes N S.objs[j]) (hN : N < 1000000) (n : ByteArray) (w : Int) : Meets Try.prog 47 [dRSp S] (.cons (.ptr 0 [.d]) (.cons (.ptr 0 [.d, .f 2, .i j]) (.cons (.val (.string n)) (.cons (avInt w) .nil))))
    fun av X κ => av = .tup .nil ∧ X = [dRSp (addOf S j S.objs[j] n w)] ∧ κ = putK := by
  refine Meets.of_vs tabOk Try.func47 (body := ?_) ?_ (by kernel_rfl) Try.ntmps47 (rs := []) (by kernel_rfl) rfl (by simp [AV.len]) (by simp only [envOf]; exact rfl) ?_
  rotate_left
  · rfl
  intro w0 I0 F0 hF
  have hjl : j < (dRObs S.objs).len := by simpa using hj
  have hnl := ho.names_len
  have hwl := ho.1
  have hns := hS.ns
  have e2 := (dRObs_set S.objs j (addOb S.shapes S.objs[j] n w)).symm
  repeat first
    | refine VS.seq ?_
    | refine VS.skip ?_
    | refine VS.block ?_
    | refine VS.nil ?_
    | refine blockN_normal ?_
    | refine loopN_normal ?_
    | refine VS.exit ?_
    | refine blockN_hit ?_
    | refine blockN_miss (by decide) ?_
    | refine loopN_exit ?_
    | refine ⟨⟨by omega, by omega⟩, ?_⟩
    | (refine VS.region tabOk (id := 0) [] (by kernel_rfl) ?_; generalize hK : VS _ _ _ = KK; simp [hF, dRSp, dBool, dRObs_at hj, hj]; try subst hK; try (refine VS.keep [0, 1, 2, 3, 12] ?_; generalize hK : VS _ _ _ = KK; simp; try subst hK))
    | (refine VS.region tabOk (id := 1) [] (by kernel_rfl) ?_; generalize hK : VS _ _ _ = KK; simp [hF, dRSp, dBool, dRObs_at hj, hj]; try subst hK; try (refine VS.keep [0, 1, 2, 3, 18] ?_; generalize hK : VS _ _ _ = KK; simp; try subst hK))
    | (refine VS.region tabOk (id := 2) [] (by kernel_rfl) ?_; generalize hK : VS _ _ _ = KK; simp [hF, dRSp, dBool, dRObs_at hj, hj]; try subst hK; try (refine VS.keep [1, 2, 3] ?_; generalize hK : VS _ _ _ = KK; simp; try subst hK))
    | (refine VS.region tabOk (id := 3) [] (by kernel_rfl) ?_; generalize hK : VS _ _ _ = KK; simp [hF, dRSp, dBool, dRObs_at hj, hj]; try subst hK; try (refine VS.keep [1, 2, 3] ?_; generalize hK : VS _ _ _ = KK; simp; try subst hK))
    | (refine VS.region tabOk (id := 4) [] (by kernel_rfl) ?_; generalize hK : VS _ _ _ = KK; simp [hF, dRSp, dBool, dRObs_at hj, hj]; try subst hK; try (refine VS.keep [1, 3] ?_; generalize hK : VS _ _ _ = KK; simp; try subst hK))
    | (refine VS.region tabOk (id := 5) [] (by kernel_rfl) ?_; generalize hK : VS _ _ _ = KK; simp [hF, dRSp, dBool, dRObs_at hj, hj]; try subst hK; try (refine VS.keep [] ?_; generalize hK : VS _ _ _ = KK; simp; try subst hK))
    | (refine VS.cond ?_; generalize hK1 : VS _ _ _ = KK1; generalize hK2 : VS _ _ _ = KK2; simp [hF, dRSp, dBool, dRObs_at hj, hj]; try subst hK1; try subst hK2)
  refine ⟨fun hc => ?_, fun hc => ?_⟩
  · have hne : ¬ S.objs[j].shape = -1 := by omega
    obtain ⟨k, hk, h1, h2⟩ := ho.2.2.resolve_left hne
    repeat first
      | refine VS.seq ?_
      | refine VS.skip ?_
      | refine VS.block ?_
      | refine VS.nil ?_
      | refine blockN_normal ?_
      | refine loopN_normal ?_
      | refine VS.exit ?_
      | refine blockN_hit ?_
      | refine blockN_miss (by decide) ?_
      | refine loopN_exit ?_
      | refine ⟨⟨by omega, by omega⟩, ?_⟩
      | (refine VS.region tabOk (id := 0) [] (by kernel_rfl) ?_; generalize hK : VS _ _ _ = KK; simp [hF, dRSp, dBool, dRObs_at hj, hj, T.nth_setN_same _ hjl]; try subst hK; try (refine VS.keep [0, 1, 2, 3, 12] ?_; generalize hK : VS _ _ _ = KK; simp; try subst hK))
      | (refine VS.region tabOk (id := 1) [] (by kernel_rfl) ?_; generalize hK : VS _ _ _ = KK; simp [hF, dRSp, dBool, dRObs_at hj, hj, T.nth_setN_same _ hjl]; try subst hK; try (refine VS.keep [0, 1, 2, 3, 18] ?_; generalize hK : VS _ _ _ = KK; simp; try subst hK))
      | (refine VS.region tabOk (id := 2) [] (by kernel_rfl) ?_; generalize hK : VS _ _ _ = KK; simp [hF, dRSp, dBool, dRObs_at hj, hj, T.nth_setN_same _ hjl]; try subst hK; try (refine VS.keep [1, 2, 3] ?_; generalize hK : VS _ _ _ = KK; simp; try subst hK))
      | (refine VS.region tabOk (id := 3) [] (by kernel_rfl) ?_; generalize hK : VS _ _ _ = KK; simp [hF, dRSp, dBool, dRObs_at hj, hj, T.nth_setN_same _ hjl]; try subst hK; try (refine VS.keep [1, 2, 3] ?_; generalize hK : VS _ _ _ = KK; simp; try subst hK))
      | (refine VS.region tabOk (id := 4) [] (by kernel_rfl) ?_; generalize hK : VS _ _ _ = KK; simp [hF, dRSp, dBool, dRObs_at hj, hj, T.nth_setN_same _ hjl]; try subst hK; try (refine VS.keep [1, 3] ?_; generalize hK : VS _ _ _ = KK; simp; try subst hK))
      | (refine VS.region tabOk (id := 5) [] (by kernel_rfl) ?_; generalize hK : VS _ _ _ = KK; simp [hF, dRSp, dBool, dRObs_at hj, hj, T.nth_setN_same _ hjl]; try subst hK; try (refine VS.keep [] ?_; generalize hK : VS _ _ _ = KK; simp; try subst hK))
      | (refine VS.cond ?_; generalize hK1 : VS _ _ _ = KK1; generalize hK2 : VS _ _ _ = KK2; simp [hF, dRSp, dBool, dRObs_at hj, hj, T.nth_setN_same _ hjl]; try subst hK1; try subst hK2)
    refine ⟨fun h3 => ?_, fun h3 => ?_⟩
    · have h3' : 12 ≤ S.objs[j].names.length := by omega
      repeat' first
        | refine VS.seq ?_
        | refine VS.skip ?_
        | refine VS.block ?_
        | refine VS.nil ?_
        | refine blockN_normal ?_
        | refine loopN_normal ?_
        | refine VS.exit ?_
        | refine blockN_hit ?_
        | refine blockN_miss (by decide) ?_
        | refine loopN_exit ?_
        | refine ⟨⟨by omega, by omega⟩, ?_⟩
        | (refine VS.region tabOk (id := 0) [] (by kernel_rfl) ?_; generalize hK : VS _ _ _ = KK; simp [hF, dRSp, dBool, dRObs_at hj, hj, T.nth_setN_same _ hjl]; try subst hK; try (refine VS.keep [0, 1, 2, 3, 12] ?_; generalize hK : VS _ _ _ = KK; simp; try subst hK))
        | (refine VS.region tabOk (id := 1) [] (by kernel_rfl) ?_; generalize hK : VS _ _ _ = KK; simp [hF, dRSp, dBool, dRObs_at hj, hj, T.nth_setN_same _ hjl]; try subst hK; try (refine VS.keep [0, 1, 2, 3, 18] ?_; generalize hK : VS _ _ _ = KK; simp; try subst hK))
        | (refine VS.region tabOk (id := 2) [] (by kernel_rfl) ?_; generalize hK : VS _ _ _ = KK; simp [hF, dRSp, dBool, dRObs_at hj, hj, T.nth_setN_same _ hjl]; try subst hK; try (refine VS.keep [1, 2, 3] ?_; generalize hK : VS _ _ _ = KK; simp; try subst hK))
        | (refine VS.region tabOk (id := 3) [] (by kernel_rfl) ?_; generalize hK : VS _ _ _ = KK; simp [hF, dRSp, dBool, dRObs_at hj, hj, T.nth_setN_same _ hjl]; try subst hK; try (refine VS.keep [1, 2, 3] ?_; generalize hK : VS _ _ _ = KK; simp; try subst hK))
        | (refine VS.region tabOk (id := 4) [] (by kernel_rfl) ?_; generalize hK : VS _ _ _ = KK; simp [hF, dRSp, dBool, dRObs_at hj, hj, T.nth_setN_same _ hjl]; try subst hK; try (refine VS.keep [1, 3] ?_; generalize hK : VS _ _ _ = KK; simp; try subst hK))
        | (refine VS.region tabOk (id := 5) [] (by kernel_rfl) ?_; generalize hK : VS _ _ _ = KK; simp [hF, dRSp, dBool, dRObs_at hj, hj, T.nth_setN_same _ hjl]; try subst hK; try (refine VS.keep [] ?_; generalize hK : VS _ _ _ = KK; simp; try subst hK))
        | (refine VS.cond ?_; generalize hK1 : VS _ _ _ = KK1; generalize hK2 : VS _ _ _ = KK2; simp [hF, dRSp, dBool, dRObs_at hj, hj, T.nth_setN_same _ hjl]; try subst hK1; try subst hK2)
        | refine And.intro (fun _ => ?_) (fun _ => ?_)
        | refine And.intro ?_ ?_
        | refine fun _ => ?_
      try refine VS.ret ?_
      repeat first | refine blockN_ret ?_ | refine loopN_ret ?_
      refine endK.of [] [0] putK (by simp [hF]) (by simp [covers, mpre]) ?_
      simp [hF, retK, dRSp, dBool, addOf]
      rw [e2]
      simp [addOb, stepSh, h3']
    · have h3' : ¬ 12 ≤ S.objs[j].names.length := by omega
      repeat first
        | refine VS.seq ?_
        | refine VS.skip ?_
        | refine VS.block ?_
        | refine VS.nil ?_
        | refine blockN_normal ?_
        | refine loopN_normal ?_
        | refine VS.exit ?_
        | refine blockN_hit ?_
        | refine blockN_miss (by decide) ?_
        | refine loopN_exit ?_
        | refine ⟨⟨by omega, by omega⟩, ?_⟩
        | (refine VS.region tabOk (id := 0) [] (by kernel_rfl) ?_; generalize hK : VS _ _ _ = KK; simp [hF, dRSp, dBool, dRObs_at hj, hj, T.nth_setN_same _ hjl]; try subst hK; try (refine VS.keep [0, 1, 2, 3, 12] ?_; generalize hK : VS _ _ _ = KK; simp; try subst hK))
        | (refine VS.region tabOk (id := 1) [] (by kernel_rfl) ?_; generalize hK : VS _ _ _ = KK; simp [hF, dRSp, dBool, dRObs_at hj, hj, T.nth_setN_same _ hjl]; try subst hK; try (refine VS.keep [0, 1, 2, 3, 18] ?_; generalize hK : VS _ _ _ = KK; simp; try subst hK))
        | (refine VS.region tabOk (id := 2) [] (by kernel_rfl) ?_; generalize hK : VS _ _ _ = KK; simp [hF, dRSp, dBool, dRObs_at hj, hj, T.nth_setN_same _ hjl]; try subst hK; try (refine VS.keep [1, 2, 3] ?_; generalize hK : VS _ _ _ = KK; simp; try subst hK))
        | (refine VS.region tabOk (id := 3) [] (by kernel_rfl) ?_; generalize hK : VS _ _ _ = KK; simp [hF, dRSp, dBool, dRObs_at hj, hj, T.nth_setN_same _ hjl]; try subst hK; try (refine VS.keep [1, 2, 3] ?_; generalize hK : VS _ _ _ = KK; simp; try subst hK))
        | (refine VS.region tabOk (id := 4) [] (by kernel_rfl) ?_; generalize hK : VS _ _ _ = KK; simp [hF, dRSp, dBool, dRObs_at hj, hj, T.nth_setN_same _ hjl]; try subst hK; try (refine VS.keep [1, 3] ?_; generalize hK : VS _ _ _ = KK; simp; try subst hK))
        | (refine VS.region tabOk (id := 5) [] (by kernel_rfl) ?_; generalize hK : VS _ _ _ = KK; simp [hF, dRSp, dBool, dRObs_at hj, hj, T.nth_setN_same _ hjl]; try subst hK; try (refine VS.keep [] ?_; generalize hK : VS _ _ _ = KK; simp; try subst hK))
        | (refine VS.cond ?_; generalize hK1 : VS _ _ _ = KK1; generalize hK2 : VS _ _ _ = KK2; simp [hF, dRSp, dBool, dRObs_at hj, hj, T.nth_setN_same _ hjl]; try subst hK1; try subst hK2)
      simp only [h1, tick_eq]
      refine (rbelow_ok S hS k hk n).call [(0, [])] (by simp) (by simp [hF, dRSp, dBool, dRObs_at hj, hj]) (by simp [hF, dRSp, dBool, dRObs_at hj, hj]) (by simp [hF, dRSp, dBool, dRObs_at hj, hj]) ?_
      rintro av X κ ⟨rfl, rfl, rfl⟩
      generalize hK : VS _ _ _ = KK; simp [hF, dRSp, dBool, dRObs_at hj, hj]; try subst hK
      have hs : stepSh S.shapes S.objs[j] n = rbelow S.shapes k n := by
        have hkk : ¬ (k : Int) = -1 := by omega
        simp [stepSh, rbelow, h1, h2, hkk, hk]
        rw [h2] at h3'
        simp [h3']
      repeat' first
        | refine VS.seq ?_
        | refine VS.skip ?_
        | refine VS.block ?_
        | refine VS.nil ?_
        | refine blockN_normal ?_
        | refine loopN_normal ?_
        | refine VS.exit ?_
        | refine blockN_hit ?_
        | refine blockN_miss (by decide) ?_
        | refine loopN_exit ?_
        | refine ⟨⟨by omega, by omega⟩, ?_⟩
        | (refine VS.region tabOk (id := 0) [] (by kernel_rfl) ?_; generalize hK : VS _ _ _ = KK; simp [hF, dRSp, dBool, dRObs_at hj, hj, T.nth_setN_same _ hjl]; try subst hK; try (refine VS.keep [0, 1, 2, 3, 12] ?_; generalize hK : VS _ _ _ = KK; simp; try subst hK))
        | (refine VS.region tabOk (id := 1) [] (by kernel_rfl) ?_; generalize hK : VS _ _ _ = KK; simp [hF, dRSp, dBool, dRObs_at hj, hj, T.nth_setN_same _ hjl]; try subst hK; try (refine VS.keep [0, 1, 2, 3, 18] ?_; generalize hK : VS _ _ _ = KK; simp; try subst hK))
        | (refine VS.region tabOk (id := 2) [] (by kernel_rfl) ?_; generalize hK : VS _ _ _ = KK; simp [hF, dRSp, dBool, dRObs_at hj, hj, T.nth_setN_same _ hjl]; try subst hK; try (refine VS.keep [1, 2, 3] ?_; generalize hK : VS _ _ _ = KK; simp; try subst hK))
        | (refine VS.region tabOk (id := 3) [] (by kernel_rfl) ?_; generalize hK : VS _ _ _ = KK; simp [hF, dRSp, dBool, dRObs_at hj, hj, T.nth_setN_same _ hjl]; try subst hK; try (refine VS.keep [1, 2, 3] ?_; generalize hK : VS _ _ _ = KK; simp; try subst hK))
        | (refine VS.region tabOk (id := 4) [] (by kernel_rfl) ?_; generalize hK : VS _ _ _ = KK; simp [hF, dRSp, dBool, dRObs_at hj, hj, T.nth_setN_same _ hjl]; try subst hK; try (refine VS.keep [1, 3] ?_; generalize hK : VS _ _ _ = KK; simp; try subst hK))
        | (refine VS.region tabOk (id := 5) [] (by kernel_rfl) ?_; generalize hK : VS _ _ _ = KK; simp [hF, dRSp, dBool, dRObs_at hj, hj, T.nth_setN_same _ hjl]; try subst hK; try (refine VS.keep [] ?_; generalize hK : VS _ _ _ = KK; simp; try subst hK))
        | (refine VS.cond ?_; generalize hK1 : VS _ _ _ = KK1; generalize hK2 : VS _ _ _ = KK2; simp [hF, dRSp, dBool, dRObs_at hj, hj, T.nth_setN_same _ hjl]; try subst hK1; try subst hK2)
        | refine And.intro (fun _ => ?_) (fun _ => ?_)
        | refine And.intro ?_ ?_
        | refine fun _ => ?_
      try refine VS.ret ?_
      repeat first | refine blockN_ret ?_ | refine loopN_ret ?_
      refine endK.of [] [0] putK (by simp [hF]) (by simp [covers, mpre]) ?_
      simp [hF, retK, dRSp, dBool, addOf]
      rw [e2]
      simp [addOb, hs]
  · have hs1 : S.objs[j].shape = -1 := by
      rcases ho.2.2 with h | ⟨k, hk, h1, _⟩
      · exact h
      · omega
    repeat' first
      | refine VS.seq ?_
      | refine VS.skip ?_
      | refine VS.block ?_
      | refine VS.nil ?_
      | refine blockN_normal ?_
      | refine loopN_normal ?_
      | refine VS.exit ?_
      | refine blockN_hit ?_
      | refine blockN_miss (by decide) ?_
      | refine loopN_exit ?_
      | refine ⟨⟨by omega, by omega⟩, ?_⟩
      | (refine VS.region tabOk (id := 0) [] (by kernel_rfl) ?_; generalize hK : VS _ _ _ = KK; simp [hF, dRSp, dBool, dRObs_at hj, hj, T.nth_setN_same _ hjl]; try subst hK; try (refine VS.keep [0, 1, 2, 3, 12] ?_; generalize hK : VS _ _ _ = KK; simp; try subst hK))
      | (refine VS.region tabOk (id := 1) [] (by kernel_rfl) ?_; generalize hK : VS _ _ _ = KK; simp [hF, dRSp, dBool, dRObs_at hj, hj, T.nth_setN_same _ hjl]; try subst hK; try (refine VS.keep [0, 1, 2, 3, 18] ?_; generalize hK : VS _ _ _ = KK; simp; try subst hK))
      | (refine VS.region tabOk (id := 2) [] (by kernel_rfl) ?_; generalize hK : VS _ _ _ = KK; simp [hF, dRSp, dBool, dRObs_at hj, hj, T.nth_setN_same _ hjl]; try subst hK; try (refine VS.keep [1, 2, 3] ?_; generalize hK : VS _ _ _ = KK; simp; try subst hK))
      | (refine VS.region tabOk (id := 3) [] (by kernel_rfl) ?_; generalize hK : VS _ _ _ = KK; simp [hF, dRSp, dBool, dRObs_at hj, hj, T.nth_setN_same _ hjl]; try subst hK; try (refine VS.keep [1, 2, 3] ?_; generalize hK : VS _ _ _ = KK; simp; try subst hK))
      | (refine VS.region tabOk (id := 4) [] (by kernel_rfl) ?_; generalize hK : VS _ _ _ = KK; simp [hF, dRSp, dBool, dRObs_at hj, hj, T.nth_setN_same _ hjl]; try subst hK; try (refine VS.keep [1, 3] ?_; generalize hK : VS _ _ _ = KK; simp; try subst hK))
      | (refine VS.region tabOk (id := 5) [] (by kernel_rfl) ?_; generalize hK : VS _ _ _ = KK; simp [hF, dRSp, dBool, dRObs_at hj, hj, T.nth_setN_same _ hjl]; try subst hK; try (refine VS.keep [] ?_; generalize hK : VS _ _ _ = KK; simp; try subst hK))
      | (refine VS.cond ?_; generalize hK1 : VS _ _ _ = KK1; generalize hK2 : VS _ _ _ = KK2; simp [hF, dRSp, dBool, dRObs_at hj, hj, T.nth_setN_same _ hjl]; try subst hK1; try subst hK2)
      | refine And.intro (fun _ => ?_) (fun _ => ?_)
      | refine And.intro ?_ ?_
      | refine fun _ => ?_
    try refine VS.ret ?_
    repeat first | refine blockN_ret ?_ | refine loopN_ret ?_
    refine endK.of [] [0] putK (by simp [hF]) (by simp [covers, mpre]) ?_
    simp [hF, retK, dRSp, dBool, addOf]
    rw [e2]
    simp [addOb, stepSh, hs1]

/- (*cabochon/cabochonref20.Space).Set -/
theorem rset_ok (S : Sp) (h0 : 0 < S.shapes.length) {N : Nat} (hS : WF S N) (hN : N < 1000000) (o : Int) (n : ByteArray) (w : Int) : Meets Try.prog 18 [dRSp S] (.cons (.ptr 0 [.d]) (.cons (avInt o) (.cons (.val (.string n)) (.cons (avInt w) .nil))))
    fun av X κ => av = avInt (setOf S o n w).2 ∧ X = [dRSp (setOf S o n w).1] ∧ κ = [(0, [.d])] := by
  refine Meets.of_vs tabOk Try.func18 (body := ?_) ?_ (by kernel_rfl) Try.ntmps18 (rs := [.tmp 8]) (by kernel_rfl) rfl (by simp [AV.len]) (by simp only [envOf]; exact rfl) ?_
  rotate_left
  · rfl
  intro w0 I0 F0 hF
  repeat first
    | refine VS.seq ?_
    | refine VS.skip ?_
    | refine VS.block ?_
    | refine VS.nil ?_
    | refine blockN_normal ?_
    | refine loopN_normal ?_
    | refine VS.exit ?_
    | refine blockN_hit ?_
    | refine blockN_miss (by decide) ?_
    | refine loopN_exit ?_
    | refine ⟨⟨by omega, by omega⟩, ?_⟩
    | (refine VS.region tabOk (id := 0) [] (by kernel_rfl) ?_; generalize hK : VS _ _ _ = KK; simp [hF]; try subst hK; try (refine VS.keep [0, 1, 2, 3] ?_; generalize hK : VS _ _ _ = KK; simp; try subst hK))
    | (refine VS.region tabOk (id := 1) [] (by kernel_rfl) ?_; generalize hK : VS _ _ _ = KK; simp [hF]; try subst hK; try (refine VS.keep [0, 1, 2, 3, 14] ?_; generalize hK : VS _ _ _ = KK; simp; try subst hK))
    | (refine VS.region tabOk (id := 2) [] (by kernel_rfl) ?_; generalize hK : VS _ _ _ = KK; simp [hF]; try subst hK; try (refine VS.keep [8] ?_; generalize hK : VS _ _ _ = KK; simp; try subst hK))
    | (refine VS.region tabOk (id := 3) [] (by kernel_rfl) ?_; generalize hK : VS _ _ _ = KK; simp [hF]; try subst hK; try (refine VS.keep [0, 1, 2, 3, 17] ?_; generalize hK : VS _ _ _ = KK; simp; try subst hK))
    | (refine VS.region tabOk (id := 4) [] (by kernel_rfl) ?_; generalize hK : VS _ _ _ = KK; simp [hF]; try subst hK; try (refine VS.keep [8] ?_; generalize hK : VS _ _ _ = KK; simp; try subst hK))
    | (refine VS.region tabOk (id := 5) [] (by kernel_rfl) ?_; generalize hK : VS _ _ _ = KK; simp [hF]; try subst hK; try (refine VS.keep [0, 2, 3, 9] ?_; generalize hK : VS _ _ _ = KK; simp; try subst hK))
    | (refine VS.region tabOk (id := 6) [] (by kernel_rfl) ?_; generalize hK : VS _ _ _ = KK; simp [hF]; try subst hK; try (refine VS.keep [0, 2, 3, 9, 27] ?_; generalize hK : VS _ _ _ = KK; simp; try subst hK))
    | (refine VS.region tabOk (id := 7) [] (by kernel_rfl) ?_; generalize hK : VS _ _ _ = KK; simp [hF]; try subst hK; try (refine VS.keep [8] ?_; generalize hK : VS _ _ _ = KK; simp; try subst hK))
    | (refine VS.region tabOk (id := 8) [] (by kernel_rfl) ?_; generalize hK : VS _ _ _ = KK; simp [hF]; try subst hK; try (refine VS.keep [0, 2, 3, 9, 10] ?_; generalize hK : VS _ _ _ = KK; simp; try subst hK))
    | (refine VS.region tabOk (id := 9) [] (by kernel_rfl) ?_; generalize hK : VS _ _ _ = KK; simp [hF]; try subst hK; try (refine VS.keep [0, 2, 3, 9, 10, 35] ?_; generalize hK : VS _ _ _ = KK; simp; try subst hK))
    | (refine VS.region tabOk (id := 10) [] (by kernel_rfl) ?_; generalize hK : VS _ _ _ = KK; simp [hF]; try subst hK; try (refine VS.keep [] ?_; generalize hK : VS _ _ _ = KK; simp; try subst hK))
    | (refine VS.region tabOk (id := 11) [] (by kernel_rfl) ?_; generalize hK : VS _ _ _ = KK; simp [hF]; try subst hK; try (refine VS.keep [8] ?_; generalize hK : VS _ _ _ = KK; simp; try subst hK))
    | (refine VS.region tabOk (id := 12) [] (by kernel_rfl) ?_; generalize hK : VS _ _ _ = KK; simp [hF]; try subst hK; try (refine VS.keep [] ?_; generalize hK : VS _ _ _ = KK; simp; try subst hK))
    | (refine VS.region tabOk (id := 13) [] (by kernel_rfl) ?_; generalize hK : VS _ _ _ = KK; simp [hF]; try subst hK; try (refine VS.keep [8] ?_; generalize hK : VS _ _ _ = KK; simp; try subst hK))
    | (refine VS.cond ?_; generalize hK1 : VS _ _ _ = KK1; generalize hK2 : VS _ _ _ = KK2; simp [hF]; try subst hK1; try subst hK2)
  refine (object_ok S h0 o).call [(0, [])] (by simp) (by simp [hF, dRSp, dBool]) (by simp [hF, dRSp, dBool]) (by simp [hF, dRSp, dBool]) ?_
  rintro av X κ ⟨rfl, rfl, rfl⟩
  generalize hK : VS _ _ _ = KK; simp [hF, dRSp, dBool]; try subst hK
  repeat first
    | refine VS.seq ?_
    | refine VS.skip ?_
    | refine VS.block ?_
    | refine VS.nil ?_
    | refine blockN_normal ?_
    | refine loopN_normal ?_
    | refine VS.exit ?_
    | refine blockN_hit ?_
    | refine blockN_miss (by decide) ?_
    | refine loopN_exit ?_
    | refine ⟨⟨by omega, by omega⟩, ?_⟩
    | (refine VS.region tabOk (id := 0) [] (by kernel_rfl) ?_; generalize hK : VS _ _ _ = KK; simp [hF]; try subst hK; try (refine VS.keep [0, 1, 2, 3] ?_; generalize hK : VS _ _ _ = KK; simp; try subst hK))
    | (refine VS.region tabOk (id := 1) [] (by kernel_rfl) ?_; generalize hK : VS _ _ _ = KK; simp [hF]; try subst hK; try (refine VS.keep [0, 1, 2, 3, 14] ?_; generalize hK : VS _ _ _ = KK; simp; try subst hK))
    | (refine VS.region tabOk (id := 2) [] (by kernel_rfl) ?_; generalize hK : VS _ _ _ = KK; simp [hF]; try subst hK; try (refine VS.keep [8] ?_; generalize hK : VS _ _ _ = KK; simp; try subst hK))
    | (refine VS.region tabOk (id := 3) [] (by kernel_rfl) ?_; generalize hK : VS _ _ _ = KK; simp [hF]; try subst hK; try (refine VS.keep [0, 1, 2, 3, 17] ?_; generalize hK : VS _ _ _ = KK; simp; try subst hK))
    | (refine VS.region tabOk (id := 4) [] (by kernel_rfl) ?_; generalize hK : VS _ _ _ = KK; simp [hF]; try subst hK; try (refine VS.keep [8] ?_; generalize hK : VS _ _ _ = KK; simp; try subst hK))
    | (refine VS.region tabOk (id := 5) [] (by kernel_rfl) ?_; generalize hK : VS _ _ _ = KK; simp [hF]; try subst hK; try (refine VS.keep [0, 2, 3, 9] ?_; generalize hK : VS _ _ _ = KK; simp; try subst hK))
    | (refine VS.region tabOk (id := 6) [] (by kernel_rfl) ?_; generalize hK : VS _ _ _ = KK; simp [hF]; try subst hK; try (refine VS.keep [0, 2, 3, 9, 27] ?_; generalize hK : VS _ _ _ = KK; simp; try subst hK))
    | (refine VS.region tabOk (id := 7) [] (by kernel_rfl) ?_; generalize hK : VS _ _ _ = KK; simp [hF]; try subst hK; try (refine VS.keep [8] ?_; generalize hK : VS _ _ _ = KK; simp; try subst hK))
    | (refine VS.region tabOk (id := 8) [] (by kernel_rfl) ?_; generalize hK : VS _ _ _ = KK; simp [hF]; try subst hK; try (refine VS.keep [0, 2, 3, 9, 10] ?_; generalize hK : VS _ _ _ = KK; simp; try subst hK))
    | (refine VS.region tabOk (id := 9) [] (by kernel_rfl) ?_; generalize hK : VS _ _ _ = KK; simp [hF]; try subst hK; try (refine VS.keep [0, 2, 3, 9, 10, 35] ?_; generalize hK : VS _ _ _ = KK; simp; try subst hK))
    | (refine VS.region tabOk (id := 10) [] (by kernel_rfl) ?_; generalize hK : VS _ _ _ = KK; simp [hF]; try subst hK; try (refine VS.keep [] ?_; generalize hK : VS _ _ _ = KK; simp; try subst hK))
    | (refine VS.region tabOk (id := 11) [] (by kernel_rfl) ?_; generalize hK : VS _ _ _ = KK; simp [hF]; try subst hK; try (refine VS.keep [8] ?_; generalize hK : VS _ _ _ = KK; simp; try subst hK))
    | (refine VS.region tabOk (id := 12) [] (by kernel_rfl) ?_; generalize hK : VS _ _ _ = KK; simp [hF]; try subst hK; try (refine VS.keep [] ?_; generalize hK : VS _ _ _ = KK; simp; try subst hK))
    | (refine VS.region tabOk (id := 13) [] (by kernel_rfl) ?_; generalize hK : VS _ _ _ = KK; simp [hF]; try subst hK; try (refine VS.keep [8] ?_; generalize hK : VS _ _ _ = KK; simp; try subst hK))
    | (refine VS.cond ?_; generalize hK1 : VS _ _ _ = KK1; generalize hK2 : VS _ _ _ = KK2; simp [hF]; try subst hK1; try subst hK2)
  refine ⟨fun h => ?_, fun h => ?_⟩
  · repeat first
      | refine VS.seq ?_
      | refine VS.skip ?_
      | refine VS.block ?_
      | refine VS.nil ?_
      | refine blockN_normal ?_
      | refine loopN_normal ?_
      | refine VS.exit ?_
      | refine blockN_hit ?_
      | refine blockN_miss (by decide) ?_
      | refine loopN_exit ?_
      | refine ⟨⟨by omega, by omega⟩, ?_⟩
      | (refine VS.region tabOk (id := 0) [] (by kernel_rfl) ?_; generalize hK : VS _ _ _ = KK; simp [hF]; try subst hK; try (refine VS.keep [0, 1, 2, 3] ?_; generalize hK : VS _ _ _ = KK; simp; try subst hK))
      | (refine VS.region tabOk (id := 1) [] (by kernel_rfl) ?_; generalize hK : VS _ _ _ = KK; simp [hF]; try subst hK; try (refine VS.keep [0, 1, 2, 3, 14] ?_; generalize hK : VS _ _ _ = KK; simp; try subst hK))
      | (refine VS.region tabOk (id := 2) [] (by kernel_rfl) ?_; generalize hK : VS _ _ _ = KK; simp [hF]; try subst hK; try (refine VS.keep [8] ?_; generalize hK : VS _ _ _ = KK; simp; try subst hK))
      | (refine VS.region tabOk (id := 3) [] (by kernel_rfl) ?_; generalize hK : VS _ _ _ = KK; simp [hF]; try subst hK; try (refine VS.keep [0, 1, 2, 3, 17] ?_; generalize hK : VS _ _ _ = KK; simp; try subst hK))
      | (refine VS.region tabOk (id := 4) [] (by kernel_rfl) ?_; generalize hK : VS _ _ _ = KK; simp [hF]; try subst hK; try (refine VS.keep [8] ?_; generalize hK : VS _ _ _ = KK; simp; try subst hK))
      | (refine VS.region tabOk (id := 5) [] (by kernel_rfl) ?_; generalize hK : VS _ _ _ = KK; simp [hF]; try subst hK; try (refine VS.keep [0, 2, 3, 9] ?_; generalize hK : VS _ _ _ = KK; simp; try subst hK))
      | (refine VS.region tabOk (id := 6) [] (by kernel_rfl) ?_; generalize hK : VS _ _ _ = KK; simp [hF]; try subst hK; try (refine VS.keep [0, 2, 3, 9, 27] ?_; generalize hK : VS _ _ _ = KK; simp; try subst hK))
      | (refine VS.region tabOk (id := 7) [] (by kernel_rfl) ?_; generalize hK : VS _ _ _ = KK; simp [hF]; try subst hK; try (refine VS.keep [8] ?_; generalize hK : VS _ _ _ = KK; simp; try subst hK))
      | (refine VS.region tabOk (id := 8) [] (by kernel_rfl) ?_; generalize hK : VS _ _ _ = KK; simp [hF]; try subst hK; try (refine VS.keep [0, 2, 3, 9, 10] ?_; generalize hK : VS _ _ _ = KK; simp; try subst hK))
      | (refine VS.region tabOk (id := 9) [] (by kernel_rfl) ?_; generalize hK : VS _ _ _ = KK; simp [hF]; try subst hK; try (refine VS.keep [0, 2, 3, 9, 10, 35] ?_; generalize hK : VS _ _ _ = KK; simp; try subst hK))
      | (refine VS.region tabOk (id := 10) [] (by kernel_rfl) ?_; generalize hK : VS _ _ _ = KK; simp [hF]; try subst hK; try (refine VS.keep [] ?_; generalize hK : VS _ _ _ = KK; simp; try subst hK))
      | (refine VS.region tabOk (id := 11) [] (by kernel_rfl) ?_; generalize hK : VS _ _ _ = KK; simp [hF]; try subst hK; try (refine VS.keep [8] ?_; generalize hK : VS _ _ _ = KK; simp; try subst hK))
      | (refine VS.region tabOk (id := 12) [] (by kernel_rfl) ?_; generalize hK : VS _ _ _ = KK; simp [hF]; try subst hK; try (refine VS.keep [] ?_; generalize hK : VS _ _ _ = KK; simp; try subst hK))
      | (refine VS.region tabOk (id := 13) [] (by kernel_rfl) ?_; generalize hK : VS _ _ _ = KK; simp [hF]; try subst hK; try (refine VS.keep [8] ?_; generalize hK : VS _ _ _ = KK; simp; try subst hK))
      | (refine VS.cond ?_; generalize hK1 : VS _ _ _ = KK1; generalize hK2 : VS _ _ _ = KK2; simp [hF]; try subst hK1; try subst hK2)
    have he : askOf S o n true = 1 := by simp [askOf, h]
    try refine VS.ret ?_
    repeat first | refine blockN_ret ?_ | refine loopN_ret ?_
    refine endK.of [8] [0] [(0, [.d])] (by simp [hF]) (by simp [covers, mpre]) ?_
    simp [hF, retK, dRSp, dBool, setOf, he]
  · obtain ⟨j, rfl, hj, _⟩ := hasB_true h
    have ho := hS.ob _ (List.getElem_mem hj)
    have hnl := ho.names_len
    have hwl := ho.1
    repeat first
      | refine VS.seq ?_
      | refine VS.skip ?_
      | refine VS.block ?_
      | refine VS.nil ?_
      | refine blockN_normal ?_
      | refine loopN_normal ?_
      | refine VS.exit ?_
      | refine blockN_hit ?_
      | refine blockN_miss (by decide) ?_
      | refine loopN_exit ?_
      | refine ⟨⟨by omega, by omega⟩, ?_⟩
      | (refine VS.region tabOk (id := 0) [] (by kernel_rfl) ?_; generalize hK : VS _ _ _ = KK; simp [hF]; try subst hK; try (refine VS.keep [0, 1, 2, 3] ?_; generalize hK : VS _ _ _ = KK; simp; try subst hK))
      | (refine VS.region tabOk (id := 1) [] (by kernel_rfl) ?_; generalize hK : VS _ _ _ = KK; simp [hF]; try subst hK; try (refine VS.keep [0, 1, 2, 3, 14] ?_; generalize hK : VS _ _ _ = KK; simp; try subst hK))
      | (refine VS.region tabOk (id := 2) [] (by kernel_rfl) ?_; generalize hK : VS _ _ _ = KK; simp [hF]; try subst hK; try (refine VS.keep [8] ?_; generalize hK : VS _ _ _ = KK; simp; try subst hK))
      | (refine VS.region tabOk (id := 3) [] (by kernel_rfl) ?_; generalize hK : VS _ _ _ = KK; simp [hF]; try subst hK; try (refine VS.keep [0, 1, 2, 3, 17] ?_; generalize hK : VS _ _ _ = KK; simp; try subst hK))
      | (refine VS.region tabOk (id := 4) [] (by kernel_rfl) ?_; generalize hK : VS _ _ _ = KK; simp [hF]; try subst hK; try (refine VS.keep [8] ?_; generalize hK : VS _ _ _ = KK; simp; try subst hK))
      | (refine VS.region tabOk (id := 5) [] (by kernel_rfl) ?_; generalize hK : VS _ _ _ = KK; simp [hF]; try subst hK; try (refine VS.keep [0, 2, 3, 9] ?_; generalize hK : VS _ _ _ = KK; simp; try subst hK))
      | (refine VS.region tabOk (id := 6) [] (by kernel_rfl) ?_; generalize hK : VS _ _ _ = KK; simp [hF]; try subst hK; try (refine VS.keep [0, 2, 3, 9, 27] ?_; generalize hK : VS _ _ _ = KK; simp; try subst hK))
      | (refine VS.region tabOk (id := 7) [] (by kernel_rfl) ?_; generalize hK : VS _ _ _ = KK; simp [hF]; try subst hK; try (refine VS.keep [8] ?_; generalize hK : VS _ _ _ = KK; simp; try subst hK))
      | (refine VS.region tabOk (id := 8) [] (by kernel_rfl) ?_; generalize hK : VS _ _ _ = KK; simp [hF]; try subst hK; try (refine VS.keep [0, 2, 3, 9, 10] ?_; generalize hK : VS _ _ _ = KK; simp; try subst hK))
      | (refine VS.region tabOk (id := 9) [] (by kernel_rfl) ?_; generalize hK : VS _ _ _ = KK; simp [hF]; try subst hK; try (refine VS.keep [0, 2, 3, 9, 10, 35] ?_; generalize hK : VS _ _ _ = KK; simp; try subst hK))
      | (refine VS.region tabOk (id := 10) [] (by kernel_rfl) ?_; generalize hK : VS _ _ _ = KK; simp [hF]; try subst hK; try (refine VS.keep [] ?_; generalize hK : VS _ _ _ = KK; simp; try subst hK))
      | (refine VS.region tabOk (id := 11) [] (by kernel_rfl) ?_; generalize hK : VS _ _ _ = KK; simp [hF]; try subst hK; try (refine VS.keep [8] ?_; generalize hK : VS _ _ _ = KK; simp; try subst hK))
      | (refine VS.region tabOk (id := 12) [] (by kernel_rfl) ?_; generalize hK : VS _ _ _ = KK; simp [hF]; try subst hK; try (refine VS.keep [] ?_; generalize hK : VS _ _ _ = KK; simp; try subst hK))
      | (refine VS.region tabOk (id := 13) [] (by kernel_rfl) ?_; generalize hK : VS _ _ _ = KK; simp [hF]; try subst hK; try (refine VS.keep [8] ?_; generalize hK : VS _ _ _ = KK; simp; try subst hK))
      | (refine VS.cond ?_; generalize hK1 : VS _ _ _ = KK1; generalize hK2 : VS _ _ _ = KK2; simp [hF]; try subst hK1; try subst hK2)
    refine (rnamed_ok n).call [] (by simp) (by simp [hF, dRSp, dBool]) (by simp [hF, dRSp, dBool]) (by simp [hF, dRSp, dBool]) ?_
    rintro av X κ ⟨rfl, rfl, rfl⟩
    generalize hK : VS _ _ _ = KK; simp [hF, dRSp, dBool]; try subst hK
    repeat first
      | refine VS.seq ?_
      | refine VS.skip ?_
      | refine VS.block ?_
      | refine VS.nil ?_
      | refine blockN_normal ?_
      | refine loopN_normal ?_
      | refine VS.exit ?_
      | refine blockN_hit ?_
      | refine blockN_miss (by decide) ?_
      | refine loopN_exit ?_
      | refine ⟨⟨by omega, by omega⟩, ?_⟩
      | (refine VS.region tabOk (id := 0) [] (by kernel_rfl) ?_; generalize hK : VS _ _ _ = KK; simp [hF]; try subst hK; try (refine VS.keep [0, 1, 2, 3] ?_; generalize hK : VS _ _ _ = KK; simp; try subst hK))
      | (refine VS.region tabOk (id := 1) [] (by kernel_rfl) ?_; generalize hK : VS _ _ _ = KK; simp [hF]; try subst hK; try (refine VS.keep [0, 1, 2, 3, 14] ?_; generalize hK : VS _ _ _ = KK; simp; try subst hK))
      | (refine VS.region tabOk (id := 2) [] (by kernel_rfl) ?_; generalize hK : VS _ _ _ = KK; simp [hF]; try subst hK; try (refine VS.keep [8] ?_; generalize hK : VS _ _ _ = KK; simp; try subst hK))
      | (refine VS.region tabOk (id := 3) [] (by kernel_rfl) ?_; generalize hK : VS _ _ _ = KK; simp [hF]; try subst hK; try (refine VS.keep [0, 1, 2, 3, 17] ?_; generalize hK : VS _ _ _ = KK; simp; try subst hK))
      | (refine VS.region tabOk (id := 4) [] (by kernel_rfl) ?_; generalize hK : VS _ _ _ = KK; simp [hF]; try subst hK; try (refine VS.keep [8] ?_; generalize hK : VS _ _ _ = KK; simp; try subst hK))
      | (refine VS.region tabOk (id := 5) [] (by kernel_rfl) ?_; generalize hK : VS _ _ _ = KK; simp [hF]; try subst hK; try (refine VS.keep [0, 2, 3, 9] ?_; generalize hK : VS _ _ _ = KK; simp; try subst hK))
      | (refine VS.region tabOk (id := 6) [] (by kernel_rfl) ?_; generalize hK : VS _ _ _ = KK; simp [hF]; try subst hK; try (refine VS.keep [0, 2, 3, 9, 27] ?_; generalize hK : VS _ _ _ = KK; simp; try subst hK))
      | (refine VS.region tabOk (id := 7) [] (by kernel_rfl) ?_; generalize hK : VS _ _ _ = KK; simp [hF]; try subst hK; try (refine VS.keep [8] ?_; generalize hK : VS _ _ _ = KK; simp; try subst hK))
      | (refine VS.region tabOk (id := 8) [] (by kernel_rfl) ?_; generalize hK : VS _ _ _ = KK; simp [hF]; try subst hK; try (refine VS.keep [0, 2, 3, 9, 10] ?_; generalize hK : VS _ _ _ = KK; simp; try subst hK))
      | (refine VS.region tabOk (id := 9) [] (by kernel_rfl) ?_; generalize hK : VS _ _ _ = KK; simp [hF]; try subst hK; try (refine VS.keep [0, 2, 3, 9, 10, 35] ?_; generalize hK : VS _ _ _ = KK; simp; try subst hK))
      | (refine VS.region tabOk (id := 10) [] (by kernel_rfl) ?_; generalize hK : VS _ _ _ = KK; simp [hF]; try subst hK; try (refine VS.keep [] ?_; generalize hK : VS _ _ _ = KK; simp; try subst hK))
      | (refine VS.region tabOk (id := 11) [] (by kernel_rfl) ?_; generalize hK : VS _ _ _ = KK; simp [hF]; try subst hK; try (refine VS.keep [8] ?_; generalize hK : VS _ _ _ = KK; simp; try subst hK))
      | (refine VS.region tabOk (id := 12) [] (by kernel_rfl) ?_; generalize hK : VS _ _ _ = KK; simp [hF]; try subst hK; try (refine VS.keep [] ?_; generalize hK : VS _ _ _ = KK; simp; try subst hK))
      | (refine VS.region tabOk (id := 13) [] (by kernel_rfl) ?_; generalize hK : VS _ _ _ = KK; simp [hF]; try subst hK; try (refine VS.keep [8] ?_; generalize hK : VS _ _ _ = KK; simp; try subst hK))
      | (refine VS.cond ?_; generalize hK1 : VS _ _ _ = KK1; generalize hK2 : VS _ _ _ = KK2; simp [hF]; try subst hK1; try subst hK2)
    refine ⟨fun hn => ?_, fun hn => ?_⟩
    · repeat first
        | refine VS.seq ?_
        | refine VS.skip ?_
        | refine VS.block ?_
        | refine VS.nil ?_
        | refine blockN_normal ?_
        | refine loopN_normal ?_
        | refine VS.exit ?_
        | refine blockN_hit ?_
        | refine blockN_miss (by decide) ?_
        | refine loopN_exit ?_
        | refine ⟨⟨by omega, by omega⟩, ?_⟩
        | (refine VS.region tabOk (id := 0) [] (by kernel_rfl) ?_; generalize hK : VS _ _ _ = KK; simp [hF]; try subst hK; try (refine VS.keep [0, 1, 2, 3] ?_; generalize hK : VS _ _ _ = KK; simp; try subst hK))
        | (refine VS.region tabOk (id := 1) [] (by kernel_rfl) ?_; generalize hK : VS _ _ _ = KK; simp [hF]; try subst hK; try (refine VS.keep [0, 1, 2, 3, 14] ?_; generalize hK : VS _ _ _ = KK; simp; try subst hK))
        | (refine VS.region tabOk (id := 2) [] (by kernel_rfl) ?_; generalize hK : VS _ _ _ = KK; simp [hF]; try subst hK; try (refine VS.keep [8] ?_; generalize hK : VS _ _ _ = KK; simp; try subst hK))
        | (refine VS.region tabOk (id := 3) [] (by kernel_rfl) ?_; generalize hK : VS _ _ _ = KK; simp [hF]; try subst hK; try (refine VS.keep [0, 1, 2, 3, 17] ?_; generalize hK : VS _ _ _ = KK; simp; try subst hK))
        | (refine VS.region tabOk (id := 4) [] (by kernel_rfl) ?_; generalize hK : VS _ _ _ = KK; simp [hF]; try subst hK; try (refine VS.keep [8] ?_; generalize hK : VS _ _ _ = KK; simp; try subst hK))
        | (refine VS.region tabOk (id := 5) [] (by kernel_rfl) ?_; generalize hK : VS _ _ _ = KK; simp [hF]; try subst hK; try (refine VS.keep [0, 2, 3, 9] ?_; generalize hK : VS _ _ _ = KK; simp; try subst hK))
        | (refine VS.region tabOk (id := 6) [] (by kernel_rfl) ?_; generalize hK : VS _ _ _ = KK; simp [hF]; try subst hK; try (refine VS.keep [0, 2, 3, 9, 27] ?_; generalize hK : VS _ _ _ = KK; simp; try subst hK))
        | (refine VS.region tabOk (id := 7) [] (by kernel_rfl) ?_; generalize hK : VS _ _ _ = KK; simp [hF]; try subst hK; try (refine VS.keep [8] ?_; generalize hK : VS _ _ _ = KK; simp; try subst hK))
        | (refine VS.region tabOk (id := 8) [] (by kernel_rfl) ?_; generalize hK : VS _ _ _ = KK; simp [hF]; try subst hK; try (refine VS.keep [0, 2, 3, 9, 10] ?_; generalize hK : VS _ _ _ = KK; simp; try subst hK))
        | (refine VS.region tabOk (id := 9) [] (by kernel_rfl) ?_; generalize hK : VS _ _ _ = KK; simp [hF]; try subst hK; try (refine VS.keep [0, 2, 3, 9, 10, 35] ?_; generalize hK : VS _ _ _ = KK; simp; try subst hK))
        | (refine VS.region tabOk (id := 10) [] (by kernel_rfl) ?_; generalize hK : VS _ _ _ = KK; simp [hF]; try subst hK; try (refine VS.keep [] ?_; generalize hK : VS _ _ _ = KK; simp; try subst hK))
        | (refine VS.region tabOk (id := 11) [] (by kernel_rfl) ?_; generalize hK : VS _ _ _ = KK; simp [hF]; try subst hK; try (refine VS.keep [8] ?_; generalize hK : VS _ _ _ = KK; simp; try subst hK))
        | (refine VS.region tabOk (id := 12) [] (by kernel_rfl) ?_; generalize hK : VS _ _ _ = KK; simp [hF]; try subst hK; try (refine VS.keep [] ?_; generalize hK : VS _ _ _ = KK; simp; try subst hK))
        | (refine VS.region tabOk (id := 13) [] (by kernel_rfl) ?_; generalize hK : VS _ _ _ = KK; simp [hF]; try subst hK; try (refine VS.keep [8] ?_; generalize hK : VS _ _ _ = KK; simp; try subst hK))
        | (refine VS.cond ?_; generalize hK1 : VS _ _ _ = KK1; generalize hK2 : VS _ _ _ = KK2; simp [hF]; try subst hK1; try subst hK2)
      have hn' : n = noName ∨ 40 < n.size := by simp only [namedB, decide_eq_false_iff_not, Classical.not_not] at hn; exact hn
      have he : askOf S j n true = 6 := by simp [askOf, h, hn']
      try refine VS.ret ?_
      repeat first | refine blockN_ret ?_ | refine loopN_ret ?_
      refine endK.of [8] [0] [(0, [.d])] (by simp [hF]) (by simp [covers, mpre]) ?_
      simp [hF, retK, dRSp, dBool, setOf, he]
    · have hn' : ¬ (n = noName ∨ 40 < n.size) := by simp only [namedB, decide_eq_true_eq] at hn; exact hn
      repeat first
        | refine VS.seq ?_
        | refine VS.skip ?_
        | refine VS.block ?_
        | refine VS.nil ?_
        | refine blockN_normal ?_
        | refine loopN_normal ?_
        | refine VS.exit ?_
        | refine blockN_hit ?_
        | refine blockN_miss (by decide) ?_
        | refine loopN_exit ?_
        | refine ⟨⟨by omega, by omega⟩, ?_⟩
        | (refine VS.region tabOk (id := 0) [] (by kernel_rfl) ?_; generalize hK : VS _ _ _ = KK; simp [hF, dRSp, dBool, dRObs_at hj, hj]; try subst hK; try (refine VS.keep [0, 1, 2, 3] ?_; generalize hK : VS _ _ _ = KK; simp; try subst hK))
        | (refine VS.region tabOk (id := 1) [] (by kernel_rfl) ?_; generalize hK : VS _ _ _ = KK; simp [hF, dRSp, dBool, dRObs_at hj, hj]; try subst hK; try (refine VS.keep [0, 1, 2, 3, 14] ?_; generalize hK : VS _ _ _ = KK; simp; try subst hK))
        | (refine VS.region tabOk (id := 2) [] (by kernel_rfl) ?_; generalize hK : VS _ _ _ = KK; simp [hF, dRSp, dBool, dRObs_at hj, hj]; try subst hK; try (refine VS.keep [8] ?_; generalize hK : VS _ _ _ = KK; simp; try subst hK))
        | (refine VS.region tabOk (id := 3) [] (by kernel_rfl) ?_; generalize hK : VS _ _ _ = KK; simp [hF, dRSp, dBool, dRObs_at hj, hj]; try subst hK; try (refine VS.keep [0, 1, 2, 3, 17] ?_; generalize hK : VS _ _ _ = KK; simp; try subst hK))
        | (refine VS.region tabOk (id := 4) [] (by kernel_rfl) ?_; generalize hK : VS _ _ _ = KK; simp [hF, dRSp, dBool, dRObs_at hj, hj]; try subst hK; try (refine VS.keep [8] ?_; generalize hK : VS _ _ _ = KK; simp; try subst hK))
        | (refine VS.region tabOk (id := 5) [] (by kernel_rfl) ?_; generalize hK : VS _ _ _ = KK; simp [hF, dRSp, dBool, dRObs_at hj, hj]; try subst hK; try (refine VS.keep [0, 2, 3, 9] ?_; generalize hK : VS _ _ _ = KK; simp; try subst hK))
        | (refine VS.region tabOk (id := 6) [] (by kernel_rfl) ?_; generalize hK : VS _ _ _ = KK; simp [hF, dRSp, dBool, dRObs_at hj, hj]; try subst hK; try (refine VS.keep [0, 2, 3, 9, 27] ?_; generalize hK : VS _ _ _ = KK; simp; try subst hK))
        | (refine VS.region tabOk (id := 7) [] (by kernel_rfl) ?_; generalize hK : VS _ _ _ = KK; simp [hF, dRSp, dBool, dRObs_at hj, hj]; try subst hK; try (refine VS.keep [8] ?_; generalize hK : VS _ _ _ = KK; simp; try subst hK))
        | (refine VS.region tabOk (id := 8) [] (by kernel_rfl) ?_; generalize hK : VS _ _ _ = KK; simp [hF, dRSp, dBool, dRObs_at hj, hj]; try subst hK; try (refine VS.keep [0, 2, 3, 9, 10] ?_; generalize hK : VS _ _ _ = KK; simp; try subst hK))
        | (refine VS.region tabOk (id := 9) [] (by kernel_rfl) ?_; generalize hK : VS _ _ _ = KK; simp [hF, dRSp, dBool, dRObs_at hj, hj]; try subst hK; try (refine VS.keep [0, 2, 3, 9, 10, 35] ?_; generalize hK : VS _ _ _ = KK; simp; try subst hK))
        | (refine VS.region tabOk (id := 10) [] (by kernel_rfl) ?_; generalize hK : VS _ _ _ = KK; simp [hF, dRSp, dBool, dRObs_at hj, hj]; try subst hK; try (refine VS.keep [] ?_; generalize hK : VS _ _ _ = KK; simp; try subst hK))
        | (refine VS.region tabOk (id := 11) [] (by kernel_rfl) ?_; generalize hK : VS _ _ _ = KK; simp [hF, dRSp, dBool, dRObs_at hj, hj]; try subst hK; try (refine VS.keep [8] ?_; generalize hK : VS _ _ _ = KK; simp; try subst hK))
        | (refine VS.region tabOk (id := 12) [] (by kernel_rfl) ?_; generalize hK : VS _ _ _ = KK; simp [hF, dRSp, dBool, dRObs_at hj, hj]; try subst hK; try (refine VS.keep [] ?_; generalize hK : VS _ _ _ = KK; simp; try subst hK))
        | (refine VS.region tabOk (id := 13) [] (by kernel_rfl) ?_; generalize hK : VS _ _ _ = KK; simp [hF, dRSp, dBool, dRObs_at hj, hj]; try subst hK; try (refine VS.keep [8] ?_; generalize hK : VS _ _ _ = KK; simp; try subst hK))
        | (refine VS.cond ?_; generalize hK1 : VS _ _ _ = KK1; generalize hK2 : VS _ _ _ = KK2; simp [hF, dRSp, dBool, dRObs_at hj, hj]; try subst hK1; try subst hK2)
      refine ⟨fun hf => ?_, fun hf => ?_⟩
      · repeat first
          | refine VS.seq ?_
          | refine VS.skip ?_
          | refine VS.block ?_
          | refine VS.nil ?_
          | refine blockN_normal ?_
          | refine loopN_normal ?_
          | refine VS.exit ?_
          | refine blockN_hit ?_
          | refine blockN_miss (by decide) ?_
          | refine loopN_exit ?_
          | refine ⟨⟨by omega, by omega⟩, ?_⟩
          | (refine VS.region tabOk (id := 0) [] (by kernel_rfl) ?_; generalize hK : VS _ _ _ = KK; simp [hF]; try subst hK; try (refine VS.keep [0, 1, 2, 3] ?_; generalize hK : VS _ _ _ = KK; simp; try subst hK))
          | (refine VS.region tabOk (id := 1) [] (by kernel_rfl) ?_; generalize hK : VS _ _ _ = KK; simp [hF]; try subst hK; try (refine VS.keep [0, 1, 2, 3, 14] ?_; generalize hK : VS _ _ _ = KK; simp; try subst hK))
          | (refine VS.region tabOk (id := 2) [] (by kernel_rfl) ?_; generalize hK : VS _ _ _ = KK; simp [hF]; try subst hK; try (refine VS.keep [8] ?_; generalize hK : VS _ _ _ = KK; simp; try subst hK))
          | (refine VS.region tabOk (id := 3) [] (by kernel_rfl) ?_; generalize hK : VS _ _ _ = KK; simp [hF]; try subst hK; try (refine VS.keep [0, 1, 2, 3, 17] ?_; generalize hK : VS _ _ _ = KK; simp; try subst hK))
          | (refine VS.region tabOk (id := 4) [] (by kernel_rfl) ?_; generalize hK : VS _ _ _ = KK; simp [hF]; try subst hK; try (refine VS.keep [8] ?_; generalize hK : VS _ _ _ = KK; simp; try subst hK))
          | (refine VS.region tabOk (id := 5) [] (by kernel_rfl) ?_; generalize hK : VS _ _ _ = KK; simp [hF]; try subst hK; try (refine VS.keep [0, 2, 3, 9] ?_; generalize hK : VS _ _ _ = KK; simp; try subst hK))
          | (refine VS.region tabOk (id := 6) [] (by kernel_rfl) ?_; generalize hK : VS _ _ _ = KK; simp [hF]; try subst hK; try (refine VS.keep [0, 2, 3, 9, 27] ?_; generalize hK : VS _ _ _ = KK; simp; try subst hK))
          | (refine VS.region tabOk (id := 7) [] (by kernel_rfl) ?_; generalize hK : VS _ _ _ = KK; simp [hF]; try subst hK; try (refine VS.keep [8] ?_; generalize hK : VS _ _ _ = KK; simp; try subst hK))
          | (refine VS.region tabOk (id := 8) [] (by kernel_rfl) ?_; generalize hK : VS _ _ _ = KK; simp [hF]; try subst hK; try (refine VS.keep [0, 2, 3, 9, 10] ?_; generalize hK : VS _ _ _ = KK; simp; try subst hK))
          | (refine VS.region tabOk (id := 9) [] (by kernel_rfl) ?_; generalize hK : VS _ _ _ = KK; simp [hF]; try subst hK; try (refine VS.keep [0, 2, 3, 9, 10, 35] ?_; generalize hK : VS _ _ _ = KK; simp; try subst hK))
          | (refine VS.region tabOk (id := 10) [] (by kernel_rfl) ?_; generalize hK : VS _ _ _ = KK; simp [hF]; try subst hK; try (refine VS.keep [] ?_; generalize hK : VS _ _ _ = KK; simp; try subst hK))
          | (refine VS.region tabOk (id := 11) [] (by kernel_rfl) ?_; generalize hK : VS _ _ _ = KK; simp [hF]; try subst hK; try (refine VS.keep [8] ?_; generalize hK : VS _ _ _ = KK; simp; try subst hK))
          | (refine VS.region tabOk (id := 12) [] (by kernel_rfl) ?_; generalize hK : VS _ _ _ = KK; simp [hF]; try subst hK; try (refine VS.keep [] ?_; generalize hK : VS _ _ _ = KK; simp; try subst hK))
          | (refine VS.region tabOk (id := 13) [] (by kernel_rfl) ?_; generalize hK : VS _ _ _ = KK; simp [hF]; try subst hK; try (refine VS.keep [8] ?_; generalize hK : VS _ _ _ = KK; simp; try subst hK))
          | (refine VS.cond ?_; generalize hK1 : VS _ _ _ = KK1; generalize hK2 : VS _ _ _ = KK2; simp [hF]; try subst hK1; try subst hK2)
        have he : askOf S j n true = 13 := by simp [askOf, h, hn', obAt_eq hj, hf]
        try refine VS.ret ?_
        repeat first | refine blockN_ret ?_ | refine loopN_ret ?_
        refine endK.of [8] [0] [(0, [.d])] (by simp [hF]) (by simp [covers, mpre]) ?_
        simp [hF, retK, dRSp, dBool, setOf, he]
      · have he : askOf S j n true = 0 := by simp [askOf, h, hn', obAt_eq hj, hf]
        repeat first
          | refine VS.seq ?_
          | refine VS.skip ?_
          | refine VS.block ?_
          | refine VS.nil ?_
          | refine blockN_normal ?_
          | refine loopN_normal ?_
          | refine VS.exit ?_
          | refine blockN_hit ?_
          | refine blockN_miss (by decide) ?_
          | refine loopN_exit ?_
          | refine ⟨⟨by omega, by omega⟩, ?_⟩
          | (refine VS.region tabOk (id := 0) [] (by kernel_rfl) ?_; generalize hK : VS _ _ _ = KK; simp [hF, dRSp, dBool, dRObs_at hj, hj]; try subst hK; try (refine VS.keep [0, 1, 2, 3] ?_; generalize hK : VS _ _ _ = KK; simp; try subst hK))
          | (refine VS.region tabOk (id := 1) [] (by kernel_rfl) ?_; generalize hK : VS _ _ _ = KK; simp [hF, dRSp, dBool, dRObs_at hj, hj]; try subst hK; try (refine VS.keep [0, 1, 2, 3, 14] ?_; generalize hK : VS _ _ _ = KK; simp; try subst hK))
          | (refine VS.region tabOk (id := 2) [] (by kernel_rfl) ?_; generalize hK : VS _ _ _ = KK; simp [hF, dRSp, dBool, dRObs_at hj, hj]; try subst hK; try (refine VS.keep [8] ?_; generalize hK : VS _ _ _ = KK; simp; try subst hK))
          | (refine VS.region tabOk (id := 3) [] (by kernel_rfl) ?_; generalize hK : VS _ _ _ = KK; simp [hF, dRSp, dBool, dRObs_at hj, hj]; try subst hK; try (refine VS.keep [0, 1, 2, 3, 17] ?_; generalize hK : VS _ _ _ = KK; simp; try subst hK))
          | (refine VS.region tabOk (id := 4) [] (by kernel_rfl) ?_; generalize hK : VS _ _ _ = KK; simp [hF, dRSp, dBool, dRObs_at hj, hj]; try subst hK; try (refine VS.keep [8] ?_; generalize hK : VS _ _ _ = KK; simp; try subst hK))
          | (refine VS.region tabOk (id := 5) [] (by kernel_rfl) ?_; generalize hK : VS _ _ _ = KK; simp [hF, dRSp, dBool, dRObs_at hj, hj]; try subst hK; try (refine VS.keep [0, 2, 3, 9] ?_; generalize hK : VS _ _ _ = KK; simp; try subst hK))
          | (refine VS.region tabOk (id := 6) [] (by kernel_rfl) ?_; generalize hK : VS _ _ _ = KK; simp [hF, dRSp, dBool, dRObs_at hj, hj]; try subst hK; try (refine VS.keep [0, 2, 3, 9, 27] ?_; generalize hK : VS _ _ _ = KK; simp; try subst hK))
          | (refine VS.region tabOk (id := 7) [] (by kernel_rfl) ?_; generalize hK : VS _ _ _ = KK; simp [hF, dRSp, dBool, dRObs_at hj, hj]; try subst hK; try (refine VS.keep [8] ?_; generalize hK : VS _ _ _ = KK; simp; try subst hK))
          | (refine VS.region tabOk (id := 8) [] (by kernel_rfl) ?_; generalize hK : VS _ _ _ = KK; simp [hF, dRSp, dBool, dRObs_at hj, hj]; try subst hK; try (refine VS.keep [0, 2, 3, 9, 10] ?_; generalize hK : VS _ _ _ = KK; simp; try subst hK))
          | (refine VS.region tabOk (id := 9) [] (by kernel_rfl) ?_; generalize hK : VS _ _ _ = KK; simp [hF, dRSp, dBool, dRObs_at hj, hj]; try subst hK; try (refine VS.keep [0, 2, 3, 9, 10, 35] ?_; generalize hK : VS _ _ _ = KK; simp; try subst hK))
          | (refine VS.region tabOk (id := 10) [] (by kernel_rfl) ?_; generalize hK : VS _ _ _ = KK; simp [hF, dRSp, dBool, dRObs_at hj, hj]; try subst hK; try (refine VS.keep [] ?_; generalize hK : VS _ _ _ = KK; simp; try subst hK))
          | (refine VS.region tabOk (id := 11) [] (by kernel_rfl) ?_; generalize hK : VS _ _ _ = KK; simp [hF, dRSp, dBool, dRObs_at hj, hj]; try subst hK; try (refine VS.keep [8] ?_; generalize hK : VS _ _ _ = KK; simp; try subst hK))
          | (refine VS.region tabOk (id := 12) [] (by kernel_rfl) ?_; generalize hK : VS _ _ _ = KK; simp [hF, dRSp, dBool, dRObs_at hj, hj]; try subst hK; try (refine VS.keep [] ?_; generalize hK : VS _ _ _ = KK; simp; try subst hK))
          | (refine VS.region tabOk (id := 13) [] (by kernel_rfl) ?_; generalize hK : VS _ _ _ = KK; simp [hF, dRSp, dBool, dRObs_at hj, hj]; try subst hK; try (refine VS.keep [8] ?_; generalize hK : VS _ _ _ = KK; simp; try subst hK))
          | (refine VS.cond ?_; generalize hK1 : VS _ _ _ = KK1; generalize hK2 : VS _ _ _ = KK2; simp [hF, dRSp, dBool, dRObs_at hj, hj]; try subst hK1; try subst hK2)
        refine (place_ok true false S.objs[j].names n (by omega)).call [(0, [.d, .f 2, .i j, .f 1])] (by simp) (by simp [hF, dRSp, dBool, dRObs_at hj, hj, setN_of (dRObs_at hj)]) (by simp [hF, dRSp, dBool, dRObs_at hj, hj, setN_of (dRObs_at hj)]) (by simp [hF, dRSp, dBool, dRObs_at hj, hj, setN_of (dRObs_at hj)]) ?_
        rintro av X κ ⟨rfl, rfl, rfl⟩
        generalize hK : VS _ _ _ = KK; simp [hF, dRSp, dBool, dRObs_at hj, hj, setN_of (dRObs_at hj)]; try subst hK
        repeat first
          | refine VS.seq ?_
          | refine VS.skip ?_
          | refine VS.block ?_
          | refine VS.nil ?_
          | refine blockN_normal ?_
          | refine loopN_normal ?_
          | refine VS.exit ?_
          | refine blockN_hit ?_
          | refine blockN_miss (by decide) ?_
          | refine loopN_exit ?_
          | refine ⟨⟨by omega, by omega⟩, ?_⟩
          | (refine VS.region tabOk (id := 0) [] (by kernel_rfl) ?_; generalize hK : VS _ _ _ = KK; simp [hF]; try subst hK; try (refine VS.keep [0, 1, 2, 3] ?_; generalize hK : VS _ _ _ = KK; simp; try subst hK))
          | (refine VS.region tabOk (id := 1) [] (by kernel_rfl) ?_; generalize hK : VS _ _ _ = KK; simp [hF]; try subst hK; try (refine VS.keep [0, 1, 2, 3, 14] ?_; generalize hK : VS _ _ _ = KK; simp; try subst hK))
          | (refine VS.region tabOk (id := 2) [] (by kernel_rfl) ?_; generalize hK : VS _ _ _ = KK; simp [hF]; try subst hK; try (refine VS.keep [8] ?_; generalize hK : VS _ _ _ = KK; simp; try subst hK))
          | (refine VS.region tabOk (id := 3) [] (by kernel_rfl) ?_; generalize hK : VS _ _ _ = KK; simp [hF]; try subst hK; try (refine VS.keep [0, 1, 2, 3, 17] ?_; generalize hK : VS _ _ _ = KK; simp; try subst hK))
          | (refine VS.region tabOk (id := 4) [] (by kernel_rfl) ?_; generalize hK : VS _ _ _ = KK; simp [hF]; try subst hK; try (refine VS.keep [8] ?_; generalize hK : VS _ _ _ = KK; simp; try subst hK))
          | (refine VS.region tabOk (id := 5) [] (by kernel_rfl) ?_; generalize hK : VS _ _ _ = KK; simp [hF]; try subst hK; try (refine VS.keep [0, 2, 3, 9] ?_; generalize hK : VS _ _ _ = KK; simp; try subst hK))
          | (refine VS.region tabOk (id := 6) [] (by kernel_rfl) ?_; generalize hK : VS _ _ _ = KK; simp [hF]; try subst hK; try (refine VS.keep [0, 2, 3, 9, 27] ?_; generalize hK : VS _ _ _ = KK; simp; try subst hK))
          | (refine VS.region tabOk (id := 7) [] (by kernel_rfl) ?_; generalize hK : VS _ _ _ = KK; simp [hF]; try subst hK; try (refine VS.keep [8] ?_; generalize hK : VS _ _ _ = KK; simp; try subst hK))
          | (refine VS.region tabOk (id := 8) [] (by kernel_rfl) ?_; generalize hK : VS _ _ _ = KK; simp [hF]; try subst hK; try (refine VS.keep [0, 2, 3, 9, 10] ?_; generalize hK : VS _ _ _ = KK; simp; try subst hK))
          | (refine VS.region tabOk (id := 9) [] (by kernel_rfl) ?_; generalize hK : VS _ _ _ = KK; simp [hF]; try subst hK; try (refine VS.keep [0, 2, 3, 9, 10, 35] ?_; generalize hK : VS _ _ _ = KK; simp; try subst hK))
          | (refine VS.region tabOk (id := 10) [] (by kernel_rfl) ?_; generalize hK : VS _ _ _ = KK; simp [hF]; try subst hK; try (refine VS.keep [] ?_; generalize hK : VS _ _ _ = KK; simp; try subst hK))
          | (refine VS.region tabOk (id := 11) [] (by kernel_rfl) ?_; generalize hK : VS _ _ _ = KK; simp [hF]; try subst hK; try (refine VS.keep [8] ?_; generalize hK : VS _ _ _ = KK; simp; try subst hK))
          | (refine VS.region tabOk (id := 12) [] (by kernel_rfl) ?_; generalize hK : VS _ _ _ = KK; simp [hF]; try subst hK; try (refine VS.keep [] ?_; generalize hK : VS _ _ _ = KK; simp; try subst hK))
          | (refine VS.region tabOk (id := 13) [] (by kernel_rfl) ?_; generalize hK : VS _ _ _ = KK; simp [hF]; try subst hK; try (refine VS.keep [8] ?_; generalize hK : VS _ _ _ = KK; simp; try subst hK))
          | (refine VS.cond ?_; generalize hK1 : VS _ _ _ = KK1; generalize hK2 : VS _ _ _ = KK2; simp [hF]; try subst hK1; try subst hK2)
        refine ⟨fun hp => ?_, fun hp => ?_⟩
        · have hlt : (posIn n S.objs[j].names).toNat < S.objs[j].words.length := by
            rcases posBy_cases (fun x => decide (x = n)) S.objs[j].names with ⟨h1, _⟩ | ⟨i, hi, h1, _⟩
            · simp only [posIn] at hp; omega
            · simp only [posIn, h1]; omega
          have hlt' : posIn n S.objs[j].names < S.objs[j].words.length := by omega
          have hnth := dInts_nth hlt
          have e1 := dRObs_set S.objs j { S.objs[j] with words := S.objs[j].words.set (posIn n S.objs[j].names).toNat w }
          repeat first
            | refine VS.seq ?_
            | refine VS.skip ?_
            | refine VS.block ?_
            | refine VS.nil ?_
            | refine blockN_normal ?_
            | refine loopN_normal ?_
            | refine VS.exit ?_
            | refine blockN_hit ?_
            | refine blockN_miss (by decide) ?_
            | refine loopN_exit ?_
            | refine ⟨⟨by omega, by omega⟩, ?_⟩
            | (refine VS.region tabOk (id := 0) [] (by kernel_rfl) ?_; generalize hK : VS _ _ _ = KK; simp [hF, dRSp, dBool, dRObs_at hj, hj, hp, hlt, hlt', hnth]; try subst hK; try (refine VS.keep [0, 1, 2, 3] ?_; generalize hK : VS _ _ _ = KK; simp; try subst hK))
            | (refine VS.region tabOk (id := 1) [] (by kernel_rfl) ?_; generalize hK : VS _ _ _ = KK; simp [hF, dRSp, dBool, dRObs_at hj, hj, hp, hlt, hlt', hnth]; try subst hK; try (refine VS.keep [0, 1, 2, 3, 14] ?_; generalize hK : VS _ _ _ = KK; simp; try subst hK))
            | (refine VS.region tabOk (id := 2) [] (by kernel_rfl) ?_; generalize hK : VS _ _ _ = KK; simp [hF, dRSp, dBool, dRObs_at hj, hj, hp, hlt, hlt', hnth]; try subst hK; try (refine VS.keep [8] ?_; generalize hK : VS _ _ _ = KK; simp; try subst hK))
            | (refine VS.region tabOk (id := 3) [] (by kernel_rfl) ?_; generalize hK : VS _ _ _ = KK; simp [hF, dRSp, dBool, dRObs_at hj, hj, hp, hlt, hlt', hnth]; try subst hK; try (refine VS.keep [0, 1, 2, 3, 17] ?_; generalize hK : VS _ _ _ = KK; simp; try subst hK))
            | (refine VS.region tabOk (id := 4) [] (by kernel_rfl) ?_; generalize hK : VS _ _ _ = KK; simp [hF, dRSp, dBool, dRObs_at hj, hj, hp, hlt, hlt', hnth]; try subst hK; try (refine VS.keep [8] ?_; generalize hK : VS _ _ _ = KK; simp; try subst hK))
            | (refine VS.region tabOk (id := 5) [] (by kernel_rfl) ?_; generalize hK : VS _ _ _ = KK; simp [hF, dRSp, dBool, dRObs_at hj, hj, hp, hlt, hlt', hnth]; try subst hK; try (refine VS.keep [0, 2, 3, 9] ?_; generalize hK : VS _ _ _ = KK; simp; try subst hK))
            | (refine VS.region tabOk (id := 6) [] (by kernel_rfl) ?_; generalize hK : VS _ _ _ = KK; simp [hF, dRSp, dBool, dRObs_at hj, hj, hp, hlt, hlt', hnth]; try subst hK; try (refine VS.keep [0, 2, 3, 9, 27] ?_; generalize hK : VS _ _ _ = KK; simp; try subst hK))
            | (refine VS.region tabOk (id := 7) [] (by kernel_rfl) ?_; generalize hK : VS _ _ _ = KK; simp [hF, dRSp, dBool, dRObs_at hj, hj, hp, hlt, hlt', hnth]; try subst hK; try (refine VS.keep [8] ?_; generalize hK : VS _ _ _ = KK; simp; try subst hK))
            | (refine VS.region tabOk (id := 8) [] (by kernel_rfl) ?_; generalize hK : VS _ _ _ = KK; simp [hF, dRSp, dBool, dRObs_at hj, hj, hp, hlt, hlt', hnth]; try subst hK; try (refine VS.keep [0, 2, 3, 9, 10] ?_; generalize hK : VS _ _ _ = KK; simp; try subst hK))
            | (refine VS.region tabOk (id := 9) [] (by kernel_rfl) ?_; generalize hK : VS _ _ _ = KK; simp [hF, dRSp, dBool, dRObs_at hj, hj, hp, hlt, hlt', hnth]; try subst hK; try (refine VS.keep [0, 2, 3, 9, 10, 35] ?_; generalize hK : VS _ _ _ = KK; simp; try subst hK))
            | (refine VS.region tabOk (id := 10) [] (by kernel_rfl) ?_; generalize hK : VS _ _ _ = KK; simp [hF, dRSp, dBool, dRObs_at hj, hj, hp, hlt, hlt', hnth]; try subst hK; try (refine VS.keep [] ?_; generalize hK : VS _ _ _ = KK; simp; try subst hK))
            | (refine VS.region tabOk (id := 11) [] (by kernel_rfl) ?_; generalize hK : VS _ _ _ = KK; simp [hF, dRSp, dBool, dRObs_at hj, hj, hp, hlt, hlt', hnth]; try subst hK; try (refine VS.keep [8] ?_; generalize hK : VS _ _ _ = KK; simp; try subst hK))
            | (refine VS.region tabOk (id := 12) [] (by kernel_rfl) ?_; generalize hK : VS _ _ _ = KK; simp [hF, dRSp, dBool, dRObs_at hj, hj, hp, hlt, hlt', hnth]; try subst hK; try (refine VS.keep [] ?_; generalize hK : VS _ _ _ = KK; simp; try subst hK))
            | (refine VS.region tabOk (id := 13) [] (by kernel_rfl) ?_; generalize hK : VS _ _ _ = KK; simp [hF, dRSp, dBool, dRObs_at hj, hj, hp, hlt, hlt', hnth]; try subst hK; try (refine VS.keep [8] ?_; generalize hK : VS _ _ _ = KK; simp; try subst hK))
            | (refine VS.cond ?_; generalize hK1 : VS _ _ _ = KK1; generalize hK2 : VS _ _ _ = KK2; simp [hF, dRSp, dBool, dRObs_at hj, hj, hp, hlt, hlt', hnth]; try subst hK1; try subst hK2)
          try refine VS.ret ?_
          repeat first | refine blockN_ret ?_ | refine loopN_ret ?_
          refine endK.of [8] [0] [(0, [.d])] (by simp [hF]) (by simp [covers, mpre]) ?_
          simp [hF, retK, dRSp, dBool, setOf, he, obAt_eq hj, hp, setOb, e1]
        · have hp' : ¬ 0 ≤ posIn n S.objs[j].names := by omega
          repeat first
            | refine VS.seq ?_
            | refine VS.skip ?_
            | refine VS.block ?_
            | refine VS.nil ?_
            | refine blockN_normal ?_
            | refine loopN_normal ?_
            | refine VS.exit ?_
            | refine blockN_hit ?_
            | refine blockN_miss (by decide) ?_
            | refine loopN_exit ?_
            | refine ⟨⟨by omega, by omega⟩, ?_⟩
            | (refine VS.region tabOk (id := 0) [] (by kernel_rfl) ?_; generalize hK : VS _ _ _ = KK; simp [hF, dRSp, dBool, dRObs_at hj, hj]; try subst hK; try (refine VS.keep [0, 1, 2, 3] ?_; generalize hK : VS _ _ _ = KK; simp; try subst hK))
            | (refine VS.region tabOk (id := 1) [] (by kernel_rfl) ?_; generalize hK : VS _ _ _ = KK; simp [hF, dRSp, dBool, dRObs_at hj, hj]; try subst hK; try (refine VS.keep [0, 1, 2, 3, 14] ?_; generalize hK : VS _ _ _ = KK; simp; try subst hK))
            | (refine VS.region tabOk (id := 2) [] (by kernel_rfl) ?_; generalize hK : VS _ _ _ = KK; simp [hF, dRSp, dBool, dRObs_at hj, hj]; try subst hK; try (refine VS.keep [8] ?_; generalize hK : VS _ _ _ = KK; simp; try subst hK))
            | (refine VS.region tabOk (id := 3) [] (by kernel_rfl) ?_; generalize hK : VS _ _ _ = KK; simp [hF, dRSp, dBool, dRObs_at hj, hj]; try subst hK; try (refine VS.keep [0, 1, 2, 3, 17] ?_; generalize hK : VS _ _ _ = KK; simp; try subst hK))
            | (refine VS.region tabOk (id := 4) [] (by kernel_rfl) ?_; generalize hK : VS _ _ _ = KK; simp [hF, dRSp, dBool, dRObs_at hj, hj]; try subst hK; try (refine VS.keep [8] ?_; generalize hK : VS _ _ _ = KK; simp; try subst hK))
            | (refine VS.region tabOk (id := 5) [] (by kernel_rfl) ?_; generalize hK : VS _ _ _ = KK; simp [hF, dRSp, dBool, dRObs_at hj, hj]; try subst hK; try (refine VS.keep [0, 2, 3, 9] ?_; generalize hK : VS _ _ _ = KK; simp; try subst hK))
            | (refine VS.region tabOk (id := 6) [] (by kernel_rfl) ?_; generalize hK : VS _ _ _ = KK; simp [hF, dRSp, dBool, dRObs_at hj, hj]; try subst hK; try (refine VS.keep [0, 2, 3, 9, 27] ?_; generalize hK : VS _ _ _ = KK; simp; try subst hK))
            | (refine VS.region tabOk (id := 7) [] (by kernel_rfl) ?_; generalize hK : VS _ _ _ = KK; simp [hF, dRSp, dBool, dRObs_at hj, hj]; try subst hK; try (refine VS.keep [8] ?_; generalize hK : VS _ _ _ = KK; simp; try subst hK))
            | (refine VS.region tabOk (id := 8) [] (by kernel_rfl) ?_; generalize hK : VS _ _ _ = KK; simp [hF, dRSp, dBool, dRObs_at hj, hj]; try subst hK; try (refine VS.keep [0, 2, 3, 9, 10] ?_; generalize hK : VS _ _ _ = KK; simp; try subst hK))
            | (refine VS.region tabOk (id := 9) [] (by kernel_rfl) ?_; generalize hK : VS _ _ _ = KK; simp [hF, dRSp, dBool, dRObs_at hj, hj]; try subst hK; try (refine VS.keep [0, 2, 3, 9, 10, 35] ?_; generalize hK : VS _ _ _ = KK; simp; try subst hK))
            | (refine VS.region tabOk (id := 10) [] (by kernel_rfl) ?_; generalize hK : VS _ _ _ = KK; simp [hF, dRSp, dBool, dRObs_at hj, hj]; try subst hK; try (refine VS.keep [] ?_; generalize hK : VS _ _ _ = KK; simp; try subst hK))
            | (refine VS.region tabOk (id := 11) [] (by kernel_rfl) ?_; generalize hK : VS _ _ _ = KK; simp [hF, dRSp, dBool, dRObs_at hj, hj]; try subst hK; try (refine VS.keep [8] ?_; generalize hK : VS _ _ _ = KK; simp; try subst hK))
            | (refine VS.region tabOk (id := 12) [] (by kernel_rfl) ?_; generalize hK : VS _ _ _ = KK; simp [hF, dRSp, dBool, dRObs_at hj, hj]; try subst hK; try (refine VS.keep [] ?_; generalize hK : VS _ _ _ = KK; simp; try subst hK))
            | (refine VS.region tabOk (id := 13) [] (by kernel_rfl) ?_; generalize hK : VS _ _ _ = KK; simp [hF, dRSp, dBool, dRObs_at hj, hj]; try subst hK; try (refine VS.keep [8] ?_; generalize hK : VS _ _ _ = KK; simp; try subst hK))
            | (refine VS.cond ?_; generalize hK1 : VS _ _ _ = KK1; generalize hK2 : VS _ _ _ = KK2; simp [hF, dRSp, dBool, dRObs_at hj, hj]; try subst hK1; try subst hK2)
          refine (put_ok S hS.sh j hj ho hN n w).call [(0, [])] (by simp) (by simp [hF, dRSp, dBool, addOf]) (by simp [hF, dRSp, dBool, addOf]) (by simp [hF, dRSp, dBool, addOf]) ?_
          rintro av X κ ⟨rfl, rfl, rfl⟩
          generalize hK : VS _ _ _ = KK; simp [hF, dRSp, dBool, addOf]; try subst hK
          repeat first
            | refine VS.seq ?_
            | refine VS.skip ?_
            | refine VS.block ?_
            | refine VS.nil ?_
            | refine blockN_normal ?_
            | refine loopN_normal ?_
            | refine VS.exit ?_
            | refine blockN_hit ?_
            | refine blockN_miss (by decide) ?_
            | refine loopN_exit ?_
            | refine ⟨⟨by omega, by omega⟩, ?_⟩
            | (refine VS.region tabOk (id := 0) [] (by kernel_rfl) ?_; generalize hK : VS _ _ _ = KK; simp [hF]; try subst hK; try (refine VS.keep [0, 1, 2, 3] ?_; generalize hK : VS _ _ _ = KK; simp; try subst hK))
            | (refine VS.region tabOk (id := 1) [] (by kernel_rfl) ?_; generalize hK : VS _ _ _ = KK; simp [hF]; try subst hK; try (refine VS.keep [0, 1, 2, 3, 14] ?_; generalize hK : VS _ _ _ = KK; simp; try subst hK))
            | (refine VS.region tabOk (id := 2) [] (by kernel_rfl) ?_; generalize hK : VS _ _ _ = KK; simp [hF]; try subst hK; try (refine VS.keep [8] ?_; generalize hK : VS _ _ _ = KK; simp; try subst hK))
            | (refine VS.region tabOk (id := 3) [] (by kernel_rfl) ?_; generalize hK : VS _ _ _ = KK; simp [hF]; try subst hK; try (refine VS.keep [0, 1, 2, 3, 17] ?_; generalize hK : VS _ _ _ = KK; simp; try subst hK))
            | (refine VS.region tabOk (id := 4) [] (by kernel_rfl) ?_; generalize hK : VS _ _ _ = KK; simp [hF]; try subst hK; try (refine VS.keep [8] ?_; generalize hK : VS _ _ _ = KK; simp; try subst hK))
            | (refine VS.region tabOk (id := 5) [] (by kernel_rfl) ?_; generalize hK : VS _ _ _ = KK; simp [hF]; try subst hK; try (refine VS.keep [0, 2, 3, 9] ?_; generalize hK : VS _ _ _ = KK; simp; try subst hK))
            | (refine VS.region tabOk (id := 6) [] (by kernel_rfl) ?_; generalize hK : VS _ _ _ = KK; simp [hF]; try subst hK; try (refine VS.keep [0, 2, 3, 9, 27] ?_; generalize hK : VS _ _ _ = KK; simp; try subst hK))
            | (refine VS.region tabOk (id := 7) [] (by kernel_rfl) ?_; generalize hK : VS _ _ _ = KK; simp [hF]; try subst hK; try (refine VS.keep [8] ?_; generalize hK : VS _ _ _ = KK; simp; try subst hK))
            | (refine VS.region tabOk (id := 8) [] (by kernel_rfl) ?_; generalize hK : VS _ _ _ = KK; simp [hF]; try subst hK; try (refine VS.keep [0, 2, 3, 9, 10] ?_; generalize hK : VS _ _ _ = KK; simp; try subst hK))
            | (refine VS.region tabOk (id := 9) [] (by kernel_rfl) ?_; generalize hK : VS _ _ _ = KK; simp [hF]; try subst hK; try (refine VS.keep [0, 2, 3, 9, 10, 35] ?_; generalize hK : VS _ _ _ = KK; simp; try subst hK))
            | (refine VS.region tabOk (id := 10) [] (by kernel_rfl) ?_; generalize hK : VS _ _ _ = KK; simp [hF]; try subst hK; try (refine VS.keep [] ?_; generalize hK : VS _ _ _ = KK; simp; try subst hK))
            | (refine VS.region tabOk (id := 11) [] (by kernel_rfl) ?_; generalize hK : VS _ _ _ = KK; simp [hF]; try subst hK; try (refine VS.keep [8] ?_; generalize hK : VS _ _ _ = KK; simp; try subst hK))
            | (refine VS.region tabOk (id := 12) [] (by kernel_rfl) ?_; generalize hK : VS _ _ _ = KK; simp [hF]; try subst hK; try (refine VS.keep [] ?_; generalize hK : VS _ _ _ = KK; simp; try subst hK))
            | (refine VS.region tabOk (id := 13) [] (by kernel_rfl) ?_; generalize hK : VS _ _ _ = KK; simp [hF]; try subst hK; try (refine VS.keep [8] ?_; generalize hK : VS _ _ _ = KK; simp; try subst hK))
            | (refine VS.cond ?_; generalize hK1 : VS _ _ _ = KK1; generalize hK2 : VS _ _ _ = KK2; simp [hF]; try subst hK1; try subst hK2)
          try refine VS.ret ?_
          repeat first | refine blockN_ret ?_ | refine loopN_ret ?_
          refine endK.of [8] [0] [(0, [.d])] (by simp [hF]) (by simp [covers, mpre]) ?_
          simp [hF, retK, dRSp, dBool, setOf, he, obAt_eq hj, hp', addOf]
end Go.Proofs.Ythcndkpkkaphoaa
