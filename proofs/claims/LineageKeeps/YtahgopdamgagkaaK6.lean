/- Comparing, finding, playing. -/
import Derived.Test.YtahgopdamgagkaaK5
import Derived.Test.YtahgopdamgagkaaK3
import Derived.ChangeArms
import Derived.ChangeSlices
import Derived.Carry
namespace Go.Proofs.Ytahgopdamgagkaa
set_option linter.all false
open Go.Vc Go.Proofs
set_option linter.unusedSimpArgs false
set_option linter.unusedVariables false
set_option maxRecDepth 100000
set_option maxHeartbeats 4000000
attribute [local irreducible] CallW EqK

/- cabochon/cabochonlaw18.same -/
theorem same_ii (e1 e2 : Bool) (l m : List Int) (hl : l.length ≤ 1000000) : Meets Try.prog 17 [] (.cons (.imm 1 (dInts l) e1) (.cons (.imm 1 (dInts m) e2) .nil))
    fun av X κ => av = avBool (decide (l = m)) ∧ X = [] ∧ κ = [] := by
  refine Meets.of_vs tabOk Try.func17 (body := ?_) ?_ (by kernel_rfl) Try.ntmps17 (rs := [.tmp 4]) (by kernel_rfl) rfl (by simp [AV.len]) (by simp only [envOf]; exact rfl) ?_
  rotate_left
  · rfl
  intro w0 I0 F0 hF
  repeat first
    | refine VS.seq ?_
    | (refine VS.keepAt 0 [0, 1] ?_; generalize hK : VS _ _ _ = KK; (try simp); (try subst hK); refine VS.region tabOk (id := 0) [] (by kernel_rfl) ?_; generalize hK : VS _ _ _ = KK; simp (maxSteps := 1000000) [hF]; (try subst hK); try (refine VS.keep [0, 1] ?_; generalize hK : VS _ _ _ = KK; simp; (try subst hK)))
    | (refine VS.keepAt 1 [0, 1] ?_; generalize hK : VS _ _ _ = KK; (try simp); (try subst hK); refine VS.region tabOk (id := 1) [] (by kernel_rfl) ?_; generalize hK : VS _ _ _ = KK; simp (maxSteps := 1000000) [hF]; (try subst hK); try (refine VS.keep [0, 1, 10] ?_; generalize hK : VS _ _ _ = KK; simp; (try subst hK)))
    | (refine VS.cond ?_; generalize hK1 : VS _ _ _ = KK1; generalize hK2 : VS _ _ _ = KK2; simp (maxSteps := 1000000) [hF]; (try subst hK1); (try subst hK2))
  refine ⟨fun h => ?_, fun h => ?_⟩
  · have hne : ¬ l = m := fun e => by subst e; omega
    repeat first
      | refine VS.seq ?_
      | (refine VS.keepAt 2 [] ?_; generalize hK : VS _ _ _ = KK; (try simp); (try subst hK); refine VS.region tabOk (id := 2) [] (by kernel_rfl) ?_; generalize hK : VS _ _ _ = KK; simp (maxSteps := 1000000) [hF]; (try subst hK); try (refine VS.keep [4] ?_; generalize hK : VS _ _ _ = KK; simp; (try subst hK)))
    try refine VS.ret ?_
    repeat first | refine blockN_ret ?_ | refine loopN_ret ?_
    refine endK.of [4] [] [] (by simp [hF]) (by simp [covers, mpre]) ?_
    simp [hF, retK, hne]
  · have hlen : l.length = m.length := by omega
    repeat first
      | refine VS.seq ?_
      | refine VS.skip ?_
      | refine VS.block ?_
      | (refine VS.keepAt 3 [0, 1] ?_; generalize hK : VS _ _ _ = KK; (try simp); (try subst hK); refine VS.region tabOk (id := 3) [] (by kernel_rfl) ?_; generalize hK : VS _ _ _ = KK; simp (maxSteps := 1000000) [hF]; (try subst hK); try (refine VS.keep [0, 1, 5] ?_; generalize hK : VS _ _ _ = KK; simp; (try subst hK)))
    refine VS.rounds (fun n st => ∃ (i : Nat), i + n = l.length ∧ (∀ j, j < i → l[j]? = m[j]?) ∧ st = ⟨[(0, .imm 1 (dInts l) e1), (1, .imm 1 (dInts m) e2), (5, avInt i)], [], [], []⟩) ⟨l.length, 0, by simp, by simp, rfl⟩ ?_
    rintro n st ⟨i, hi, hall, rfl⟩
    repeat first
      | refine VS.seq ?_
      | (refine VS.keepAt 4 [0, 1, 5] ?_; generalize hK : VS _ _ _ = KK; (try simp); (try subst hK); refine VS.region tabOk (id := 4) [] (by kernel_rfl) ?_; generalize hK : VS _ _ _ = KK; simp (maxSteps := 1000000) [hF]; (try subst hK); try (refine VS.keep [0, 1, 5, 14] ?_; generalize hK : VS _ _ _ = KK; simp; (try subst hK)))
      | (refine VS.cond ?_; generalize hK1 : VS _ _ _ = KK1; generalize hK2 : VS _ _ _ = KK2; simp (maxSteps := 1000000) [hF]; (try subst hK1); (try subst hK2))
    refine ⟨fun hlt => ?_, fun hge => ?_⟩
    · have hlt' : i < l.length := by omega
      have hlm : i < m.length := by omega
      have hn1 := dInts_nth hlt'
      have hn2 := dInts_nth hlm
      have b1 : (i : Int) < l.length := by omega
      have b2 : (i : Int) < m.length := by omega
      repeat first
        | refine VS.seq ?_
        | refine VS.skip ?_
        | refine VS.block ?_
        | (refine VS.keepAt 6 [0, 1, 5] ?_; generalize hK : VS _ _ _ = KK; (try simp); (try subst hK); refine VS.drawn tabOk mixedOk (id := 6) [] [⟨0, 1, 131072, 5⟩, ⟨0, 32, 262144, 5⟩, ⟨3, 393216, 524288, 5⟩, ⟨4, 524288, 1048576, 6⟩, ⟨0, 2, 2097152, 5⟩, ⟨0, 32, 4194304, 5⟩, ⟨48, 6291456, 8388608, 5⟩, ⟨64, 8388608, 16777216, 6⟩, ⟨136, 17825792, 33554432, 5⟩] (.take 0 (.take 1 (.take 2 (.take 3 (.take 4 (.take 5 (.take 6 (.take 7 (.take 8 (.done)))))))))) (.run [0, 1, 2, 3, 4, 5, 6, 7, 8] (.done)) (by kernel_rfl) (by kernel_rfl) (by kernel_rfl) ?_; generalize hK : VS _ _ _ = KK; simp only [opsVc_run, opsVc_both, opsVc_chk, opsVc_done, opsVc_yes, pick_cons, pick_nil, List.getElem?_cons_zero, List.getElem?_cons_succ]; simp (maxSteps := 1000000) [hF, hn1, hn2, b1, b2, hlm, hlt']; (try subst hK); try (refine VS.keep [0, 1, 5, 25] ?_; generalize hK : VS _ _ _ = KK; simp; (try subst hK)))
        | (refine VS.cond ?_; generalize hK1 : VS _ _ _ = KK1; generalize hK2 : VS _ _ _ = KK2; simp (maxSteps := 1000000) [hF, hn1, hn2, b1, b2, hlm, hlt']; (try subst hK1); (try subst hK2))
      refine ⟨fun he => ?_, fun he => ?_⟩
      · repeat first
          | refine VS.seq ?_
          | (refine VS.keepAt 7 [] ?_; generalize hK : VS _ _ _ = KK; (try simp); (try subst hK); refine VS.region tabOk (id := 7) [] (by kernel_rfl) ?_; generalize hK : VS _ _ _ = KK; simp (maxSteps := 1000000) [hF]; (try subst hK); try (refine VS.keep [4] ?_; generalize hK : VS _ _ _ = KK; simp; (try subst hK)))
        have : ¬ l = m := fun e => he (by subst e; rfl)
        try refine VS.ret ?_
        repeat first | refine blockN_ret ?_ | refine loopN_ret ?_
        refine endK.of [4] [] [] (by simp [hF]) (by simp [covers, mpre]) ?_
        simp [hF, retK, this]
      · repeat first
          | refine VS.skip ?_
          | refine VS.nil ?_
          | refine blockN_normal ?_
          | refine loopN_normal ?_
          | (refine VS.keepAt 5 [0, 1, 5] ?_; generalize hK : VS _ _ _ = KK; (try simp); (try subst hK); refine VS.region tabOk (id := 5) [] (by kernel_rfl) ?_; generalize hK : VS _ _ _ = KK; simp (maxSteps := 1000000) [hF]; (try subst hK); try (refine VS.keep [0, 1, 5] ?_; generalize hK : VS _ _ _ = KK; simp; (try subst hK)))
        refine nextK.of [0, 1, 5] [] (n - 1) (by omega) (by simp [hF]) ?_
        refine ⟨i + 1, by omega, ?_, ?_⟩
        · intro j hj
          rcases Nat.lt_or_ge j i with h' | h'
          · exact hall j h'
          · obtain rfl : j = i := by omega
            rw [List.getElem?_eq_getElem hlt', List.getElem?_eq_getElem hlm, he]
        · simp
          exact IntWalk.i64_in _ (by omega)
    · repeat first
        | refine VS.seq ?_
        | refine VS.exit ?_
        | (refine VS.keepAt 8 [] ?_; generalize hK : VS _ _ _ = KK; (try simp); (try subst hK); refine VS.region tabOk (id := 8) [] (by kernel_rfl) ?_; generalize hK : VS _ _ _ = KK; simp (maxSteps := 1000000) [hF]; (try subst hK); try (refine VS.keep [4] ?_; generalize hK : VS _ _ _ = KK; simp; (try subst hK)))
      have : l = m := List.ext_getElem? fun j => by
        rcases Nat.lt_or_ge j i with h' | h'
        · exact hall j h'
        · rw [List.getElem?_eq_none (by omega), List.getElem?_eq_none (by omega)]
      try refine VS.ret ?_
      repeat first | refine blockN_ret ?_ | refine loopN_ret ?_
      refine endK.of [4] [] [] (by simp [hF]) (by simp [covers, mpre]) ?_
      simp [hF, retK, this]
theorem same_is (e1 e2 : Bool) (l m : List Int) (hl : l.length ≤ 1000000) : Meets Try.prog 17 [.sl true () 1 (dInts m)] (.cons (.imm 1 (dInts l) e1) (.cons (.sub 0 [] 0 m.length e2) .nil))
    fun av X κ => av = avBool (decide (l = m)) ∧ X = [.sl true () 1 (dInts m)] ∧ κ = [] := by
  refine Meets.of_vs tabOk Try.func17 (body := ?_) ?_ (by kernel_rfl) Try.ntmps17 (rs := [.tmp 4]) (by kernel_rfl) rfl (by simp [AV.len]) (by simp only [envOf]; exact rfl) ?_
  rotate_left
  · rfl
  intro w0 I0 F0 hF
  repeat first
    | refine VS.seq ?_
    | (refine VS.keepAt 0 [0, 1] ?_; generalize hK : VS _ _ _ = KK; (try simp); (try subst hK); refine VS.region tabOk (id := 0) [] (by kernel_rfl) ?_; generalize hK : VS _ _ _ = KK; simp (maxSteps := 1000000) [hF]; (try subst hK); try (refine VS.keep [0, 1] ?_; generalize hK : VS _ _ _ = KK; simp; (try subst hK)))
    | (refine VS.keepAt 1 [0, 1] ?_; generalize hK : VS _ _ _ = KK; (try simp); (try subst hK); refine VS.region tabOk (id := 1) [] (by kernel_rfl) ?_; generalize hK : VS _ _ _ = KK; simp (maxSteps := 1000000) [hF]; (try subst hK); try (refine VS.keep [0, 1, 10] ?_; generalize hK : VS _ _ _ = KK; simp; (try subst hK)))
    | (refine VS.cond ?_; generalize hK1 : VS _ _ _ = KK1; generalize hK2 : VS _ _ _ = KK2; simp (maxSteps := 1000000) [hF]; (try subst hK1); (try subst hK2))
  refine ⟨fun h => ?_, fun h => ?_⟩
  · have hne : ¬ l = m := fun e => by subst e; omega
    repeat first
      | refine VS.seq ?_
      | (refine VS.keepAt 2 [] ?_; generalize hK : VS _ _ _ = KK; (try simp); (try subst hK); refine VS.region tabOk (id := 2) [] (by kernel_rfl) ?_; generalize hK : VS _ _ _ = KK; simp (maxSteps := 1000000) [hF]; (try subst hK); try (refine VS.keep [4] ?_; generalize hK : VS _ _ _ = KK; simp; (try subst hK)))
    try refine VS.ret ?_
    repeat first | refine blockN_ret ?_ | refine loopN_ret ?_
    refine endK.of [4] [0] [] (by simp [hF]) (by simp [covers, mpre]) ?_
    simp [hF, retK, hne]
  · have hlen : l.length = m.length := by omega
    repeat first
      | refine VS.seq ?_
      | refine VS.skip ?_
      | refine VS.block ?_
      | (refine VS.keepAt 3 [0, 1] ?_; generalize hK : VS _ _ _ = KK; (try simp); (try subst hK); refine VS.region tabOk (id := 3) [] (by kernel_rfl) ?_; generalize hK : VS _ _ _ = KK; simp (maxSteps := 1000000) [hF]; (try subst hK); try (refine VS.keep [0, 1, 5] ?_; generalize hK : VS _ _ _ = KK; simp; (try subst hK)))
    refine VS.rounds (fun n st => ∃ (i : Nat), i + n = l.length ∧ (∀ j, j < i → l[j]? = m[j]?) ∧ st = ⟨[(0, .imm 1 (dInts l) e1), (1, .sub 0 [] 0 m.length e2), (5, avInt i)], [.sl true () 1 (dInts m)], [], []⟩) ⟨l.length, 0, by simp, by simp, rfl⟩ ?_
    rintro n st ⟨i, hi, hall, rfl⟩
    repeat first
      | refine VS.seq ?_
      | (refine VS.keepAt 4 [0, 1, 5] ?_; generalize hK : VS _ _ _ = KK; (try simp); (try subst hK); refine VS.region tabOk (id := 4) [] (by kernel_rfl) ?_; generalize hK : VS _ _ _ = KK; simp (maxSteps := 1000000) [hF]; (try subst hK); try (refine VS.keep [0, 1, 5, 14] ?_; generalize hK : VS _ _ _ = KK; simp; (try subst hK)))
      | (refine VS.cond ?_; generalize hK1 : VS _ _ _ = KK1; generalize hK2 : VS _ _ _ = KK2; simp (maxSteps := 1000000) [hF]; (try subst hK1); (try subst hK2))
    refine ⟨fun hlt => ?_, fun hge => ?_⟩
    · have hlt' : i < l.length := by omega
      have hlm : i < m.length := by omega
      have hn1 := dInts_nth hlt'
      have hn2 := dInts_nth hlm
      have b1 : (i : Int) < l.length := by omega
      have b2 : (i : Int) < m.length := by omega
      repeat first
        | refine VS.seq ?_
        | refine VS.skip ?_
        | refine VS.block ?_
        | (refine VS.keepAt 6 [0, 1, 5] ?_; generalize hK : VS _ _ _ = KK; (try simp); (try subst hK); refine VS.drawn tabOk mixedOk (id := 6) [] [⟨0, 1, 131072, 5⟩, ⟨0, 32, 262144, 5⟩, ⟨3, 393216, 524288, 5⟩, ⟨4, 524288, 1048576, 6⟩, ⟨0, 2, 2097152, 5⟩, ⟨0, 32, 4194304, 5⟩, ⟨48, 6291456, 8388608, 5⟩, ⟨64, 8388608, 16777216, 6⟩, ⟨136, 17825792, 33554432, 5⟩] (.take 0 (.take 1 (.take 2 (.take 3 (.take 4 (.take 5 (.take 6 (.take 7 (.take 8 (.done)))))))))) (.run [0, 1, 2, 3, 4, 5, 6, 7, 8] (.done)) (by kernel_rfl) (by kernel_rfl) (by kernel_rfl) ?_; generalize hK : VS _ _ _ = KK; simp only [opsVc_run, opsVc_both, opsVc_chk, opsVc_done, opsVc_yes, pick_cons, pick_nil, List.getElem?_cons_zero, List.getElem?_cons_succ]; simp (maxSteps := 1000000) [hF, hn1, hn2, b1, b2, hlm, hlt']; (try subst hK); try (refine VS.keep [0, 1, 5, 25] ?_; generalize hK : VS _ _ _ = KK; simp; (try subst hK)))
        | (refine VS.cond ?_; generalize hK1 : VS _ _ _ = KK1; generalize hK2 : VS _ _ _ = KK2; simp (maxSteps := 1000000) [hF, hn1, hn2, b1, b2, hlm, hlt']; (try subst hK1); (try subst hK2))
      refine ⟨fun he => ?_, fun he => ?_⟩
      · repeat first
          | refine VS.seq ?_
          | (refine VS.keepAt 7 [] ?_; generalize hK : VS _ _ _ = KK; (try simp); (try subst hK); refine VS.region tabOk (id := 7) [] (by kernel_rfl) ?_; generalize hK : VS _ _ _ = KK; simp (maxSteps := 1000000) [hF]; (try subst hK); try (refine VS.keep [4] ?_; generalize hK : VS _ _ _ = KK; simp; (try subst hK)))
        have : ¬ l = m := fun e => he (by subst e; rfl)
        try refine VS.ret ?_
        repeat first | refine blockN_ret ?_ | refine loopN_ret ?_
        refine endK.of [4] [0] [] (by simp [hF]) (by simp [covers, mpre]) ?_
        simp [hF, retK, this]
      · repeat first
          | refine VS.skip ?_
          | refine VS.nil ?_
          | refine blockN_normal ?_
          | refine loopN_normal ?_
          | (refine VS.keepAt 5 [0, 1, 5] ?_; generalize hK : VS _ _ _ = KK; (try simp); (try subst hK); refine VS.region tabOk (id := 5) [] (by kernel_rfl) ?_; generalize hK : VS _ _ _ = KK; simp (maxSteps := 1000000) [hF]; (try subst hK); try (refine VS.keep [0, 1, 5] ?_; generalize hK : VS _ _ _ = KK; simp; (try subst hK)))
        refine nextK.of [0, 1, 5] [0] (n - 1) (by omega) (by simp [hF]) ?_
        refine ⟨i + 1, by omega, ?_, ?_⟩
        · intro j hj
          rcases Nat.lt_or_ge j i with h' | h'
          · exact hall j h'
          · obtain rfl : j = i := by omega
            rw [List.getElem?_eq_getElem hlt', List.getElem?_eq_getElem hlm, he]
        · simp
          exact IntWalk.i64_in _ (by omega)
    · repeat first
        | refine VS.seq ?_
        | refine VS.exit ?_
        | (refine VS.keepAt 8 [] ?_; generalize hK : VS _ _ _ = KK; (try simp); (try subst hK); refine VS.region tabOk (id := 8) [] (by kernel_rfl) ?_; generalize hK : VS _ _ _ = KK; simp (maxSteps := 1000000) [hF]; (try subst hK); try (refine VS.keep [4] ?_; generalize hK : VS _ _ _ = KK; simp; (try subst hK)))
      have : l = m := List.ext_getElem? fun j => by
        rcases Nat.lt_or_ge j i with h' | h'
        · exact hall j h'
        · rw [List.getElem?_eq_none (by omega), List.getElem?_eq_none (by omega)]
      try refine VS.ret ?_
      repeat first | refine blockN_ret ?_ | refine loopN_ret ?_
      refine endK.of [4] [0] [] (by simp [hF]) (by simp [covers, mpre]) ?_
      simp [hF, retK, this]

/- cabochon/cabochonref18.Has -/
theorem has_ok (ex : Bool) (l : List Int) (v : Int) (hl : l.length ≤ 1000000) : Meets Try.prog 14 [] (.cons (.imm 1 (dInts l) ex) (.cons (avInt v) .nil))
    fun av X κ => av = avBool (hasN l v) ∧ X = [] ∧ κ = [] := by
  refine Meets.of_vs tabOk Try.func14 (body := ?_) ?_ (by kernel_rfl) Try.ntmps14 (rs := [.tmp 4]) (by kernel_rfl) rfl (by simp [AV.len]) (by simp only [envOf]; exact rfl) ?_
  rotate_left
  · rfl
  intro w0 I0 F0 hF
  repeat first
    | refine VS.seq ?_
    | refine VS.block ?_
    | (refine VS.keepAt 0 [0, 1] ?_; generalize hK : VS _ _ _ = KK; (try simp); (try subst hK); refine VS.region tabOk (id := 0) [] (by kernel_rfl) ?_; generalize hK : VS _ _ _ = KK; simp (maxSteps := 1000000) [hF]; (try subst hK); try (refine VS.keep [0, 1] ?_; generalize hK : VS _ _ _ = KK; simp; (try subst hK)))
    | (refine VS.keepAt 1 [0, 1] ?_; generalize hK : VS _ _ _ = KK; (try simp); (try subst hK); refine VS.region tabOk (id := 1) [] (by kernel_rfl) ?_; generalize hK : VS _ _ _ = KK; simp (maxSteps := 1000000) [hF]; (try subst hK); try (refine VS.keep [0, 1, 5] ?_; generalize hK : VS _ _ _ = KK; simp; (try subst hK)))
  refine VS.rounds (fun m st => ∃ (i : Nat), i + m = l.length ∧ (∀ j, (h : j < l.length) → j < i → ¬ l[j] = v) ∧ st = ⟨[(0, .imm 1 (dInts l) ex), (1, avInt v), (5, avInt i)], [], [], []⟩) ⟨l.length, 0, by omega, by omega, by simp⟩ ?_
  rintro m st ⟨i, hi, hall, rfl⟩
  repeat first
    | refine VS.seq ?_
    | (refine VS.keepAt 2 [0, 1, 5] ?_; generalize hK : VS _ _ _ = KK; (try simp); (try subst hK); refine VS.region tabOk (id := 2) [] (by kernel_rfl) ?_; generalize hK : VS _ _ _ = KK; simp (maxSteps := 1000000) [hF]; (try subst hK); try (refine VS.keep [0, 1, 5, 9] ?_; generalize hK : VS _ _ _ = KK; simp; (try subst hK)))
    | (refine VS.cond ?_; generalize hK1 : VS _ _ _ = KK1; generalize hK2 : VS _ _ _ = KK2; simp (maxSteps := 1000000) [hF]; (try subst hK1); (try subst hK2))
  refine ⟨fun hlt => ?_, fun hge => ?_⟩
  · have hi' : i < l.length := by omega
    have hn := dInts_nth hi'
    repeat first
      | refine VS.seq ?_
      | refine VS.skip ?_
      | refine VS.block ?_
      | (refine VS.keepAt 4 [0, 1, 5] ?_; generalize hK : VS _ _ _ = KK; (try simp); (try subst hK); refine VS.region tabOk (id := 4) [] (by kernel_rfl) ?_; generalize hK : VS _ _ _ = KK; simp (maxSteps := 1000000) [hF, hn, hi']; (try subst hK); try (refine VS.keep [0, 1, 5, 17] ?_; generalize hK : VS _ _ _ = KK; simp; (try subst hK)))
      | (refine VS.cond ?_; generalize hK1 : VS _ _ _ = KK1; generalize hK2 : VS _ _ _ = KK2; simp (maxSteps := 1000000) [hF, hn, hi']; (try subst hK1); (try subst hK2))
    refine ⟨fun he => ?_, fun he => ?_⟩
    · have hr : hasN l v = true := hasN_iff.2 (by rw [← he]; exact List.getElem_mem hi')
      repeat first
        | refine VS.seq ?_
        | (refine VS.keepAt 5 [] ?_; generalize hK : VS _ _ _ = KK; (try simp); (try subst hK); refine VS.region tabOk (id := 5) [] (by kernel_rfl) ?_; generalize hK : VS _ _ _ = KK; simp (maxSteps := 1000000) [hF]; (try subst hK); try (refine VS.keep [4] ?_; generalize hK : VS _ _ _ = KK; simp; (try subst hK)))
      try refine VS.ret ?_
      repeat first | refine blockN_ret ?_ | refine loopN_ret ?_
      refine endK.of [4] [] [] (by simp [hF]) (by simp [covers, mpre]) ?_
      simp [hF, retK, hr]
    · repeat first
        | refine VS.skip ?_
        | refine VS.nil ?_
        | refine blockN_normal ?_
        | refine loopN_normal ?_
        | (refine VS.keepAt 3 [0, 1, 5] ?_; generalize hK : VS _ _ _ = KK; (try simp); (try subst hK); refine VS.region tabOk (id := 3) [] (by kernel_rfl) ?_; generalize hK : VS _ _ _ = KK; simp (maxSteps := 1000000) [hF]; (try subst hK); try (refine VS.keep [0, 1, 5] ?_; generalize hK : VS _ _ _ = KK; simp; (try subst hK)))
      refine nextK.of [0, 1, 5] [] (m - 1) (by omega) (by simp [hF]) ?_
      refine ⟨i + 1, by omega, ?_, ?_⟩
      · intro j hj hji
        rcases Nat.lt_or_ge j i with h' | h'
        · exact hall j hj h'
        · obtain rfl : j = i := by omega
          exact he
      · simp
        exact IntWalk.i64_in _ (by omega)
  · have hr : hasN l v = false := by
      cases h : hasN l v with
      | false => rfl
      | true =>
        obtain ⟨j, hj, he⟩ := List.getElem_of_mem (hasN_iff.1 h)
        exact absurd he (hall j hj (by omega))
    repeat first
      | refine VS.seq ?_
      | refine VS.exit ?_
      | (refine VS.keepAt 6 [] ?_; generalize hK : VS _ _ _ = KK; (try simp); (try subst hK); refine VS.region tabOk (id := 6) [] (by kernel_rfl) ?_; generalize hK : VS _ _ _ = KK; simp (maxSteps := 1000000) [hF]; (try subst hK); try (refine VS.keep [4] ?_; generalize hK : VS _ _ _ = KK; simp; (try subst hK)))
    try refine VS.ret ?_
    repeat first | refine blockN_ret ?_ | refine loopN_ret ?_
    refine endK.of [4] [] [] (by simp [hF]) (by simp [covers, mpre]) ?_
    simp [hF, retK, hr]

/- cabochon/cabochonlaw18.behind -/
theorem behind_ok (ex : Bool) (l : List Int) (v : Int) (hl : l.length ≤ 1000000) : Meets Try.prog 22 [] (.cons (.imm 1 (dInts l) ex) (.cons (avInt v) .nil))
    fun av X κ => ∃ e, av = .imm 1 (dInts (behindOf l v)) e ∧ X = [] ∧ κ = [] := by
  refine Meets.of_vs tabOk Try.func22 (body := ?_) ?_ (by kernel_rfl) Try.ntmps22 (rs := [.tmp 4]) (by kernel_rfl) rfl (by simp [AV.len]) (by simp only [envOf]; exact rfl) ?_
  rotate_left
  · rfl
  intro w0 I0 F0 hF
  repeat first
    | refine VS.seq ?_
    | refine VS.block ?_
    | (refine VS.keepAt 0 [0, 1] ?_; generalize hK : VS _ _ _ = KK; (try simp); (try subst hK); refine VS.region tabOk (id := 0) [] (by kernel_rfl) ?_; generalize hK : VS _ _ _ = KK; simp (maxSteps := 1000000) [hF]; (try subst hK); try (refine VS.keep [0, 1] ?_; generalize hK : VS _ _ _ = KK; simp; (try subst hK)))
    | (refine VS.keepAt 1 [0, 1] ?_; generalize hK : VS _ _ _ = KK; (try simp); (try subst hK); refine VS.region tabOk (id := 1) [] (by kernel_rfl) ?_; generalize hK : VS _ _ _ = KK; simp (maxSteps := 1000000) [hF]; (try subst hK); try (refine VS.keep [0, 1, 5] ?_; generalize hK : VS _ _ _ = KK; simp; (try subst hK)))
  refine VS.rounds (fun m st => ∃ (i : Nat), i + m = l.length ∧ (∀ j, (h : j < l.length) → j < i → ¬ l[j] = v) ∧ st = ⟨[(0, .imm 1 (dInts l) ex), (1, avInt v), (5, avInt i)], [], [], []⟩) ⟨l.length, 0, by omega, by omega, by simp⟩ ?_
  rintro m st ⟨i, hi, hall, rfl⟩
  repeat first
    | refine VS.seq ?_
    | (refine VS.keepAt 2 [0, 1, 5] ?_; generalize hK : VS _ _ _ = KK; (try simp); (try subst hK); refine VS.region tabOk (id := 2) [] (by kernel_rfl) ?_; generalize hK : VS _ _ _ = KK; simp (maxSteps := 1000000) [hF]; (try subst hK); try (refine VS.keep [0, 1, 5, 9] ?_; generalize hK : VS _ _ _ = KK; simp; (try subst hK)))
    | (refine VS.cond ?_; generalize hK1 : VS _ _ _ = KK1; generalize hK2 : VS _ _ _ = KK2; simp (maxSteps := 1000000) [hF]; (try subst hK1); (try subst hK2))
  refine ⟨fun hlt => ?_, fun hge => ?_⟩
  · have hi' : i < l.length := by omega
    have hn := dInts_nth hi'
    repeat first
      | refine VS.seq ?_
      | refine VS.skip ?_
      | refine VS.block ?_
      | (refine VS.keepAt 4 [0, 1, 5] ?_; generalize hK : VS _ _ _ = KK; (try simp); (try subst hK); refine VS.region tabOk (id := 4) [] (by kernel_rfl) ?_; generalize hK : VS _ _ _ = KK; simp (maxSteps := 1000000) [hF, hn, hi']; (try subst hK); try (refine VS.keep [0, 1, 5, 17] ?_; generalize hK : VS _ _ _ = KK; simp; (try subst hK)))
      | (refine VS.cond ?_; generalize hK1 : VS _ _ _ = KK1; generalize hK2 : VS _ _ _ = KK2; simp (maxSteps := 1000000) [hF, hn, hi']; (try subst hK1); (try subst hK2))
    refine ⟨fun he => ?_, fun he => ?_⟩
    · have hb : behindOf l v = l.drop (i + 1) := behindOf_at hi' he (fun j hj => hall j (by omega) hj)
      have hw : IntKind.i64.wrap ((i : Int) + 1) = (i : Int) + 1 := IntWalk.i64_in _ (by omega)
      have h1 : (i : Int) + 1 ≤ l.length := by omega
      have h2 : 0 ≤ (i : Int) + 1 := by omega
      have h3 : ((i : Int) + 1).toNat = i + 1 := by omega
      have h4 : i + 1 ≤ l.length := hi'
      have hmid : (dInts l).mid (i + 1) (l.length - (i + 1)) = dInts (l.drop (i + 1)) := by
        rw [dInts_mid, List.take_of_length_le (by simp)]
      repeat first
        | refine VS.seq ?_
        | (refine VS.keepAt 5 [0, 5] ?_; generalize hK : VS _ _ _ = KK; (try simp); (try subst hK); refine VS.region tabOk (id := 5) [] (by kernel_rfl) ?_; generalize hK : VS _ _ _ = KK; simp (maxSteps := 1000000) [hF, hw, h1, h2, h3, h4, hmid]; (try subst hK); try (refine VS.keep [4] ?_; generalize hK : VS _ _ _ = KK; simp; (try subst hK)))
      try refine VS.ret ?_
      repeat first | refine blockN_ret ?_ | refine loopN_ret ?_
      refine endK.of [4] [] [] (by simp [hF]) (by simp [covers, mpre]) ?_
      simp [hF, retK, hb]
    · repeat first
        | refine VS.skip ?_
        | refine VS.nil ?_
        | refine blockN_normal ?_
        | refine loopN_normal ?_
        | (refine VS.keepAt 3 [0, 1, 5] ?_; generalize hK : VS _ _ _ = KK; (try simp); (try subst hK); refine VS.region tabOk (id := 3) [] (by kernel_rfl) ?_; generalize hK : VS _ _ _ = KK; simp (maxSteps := 1000000) [hF]; (try subst hK); try (refine VS.keep [0, 1, 5] ?_; generalize hK : VS _ _ _ = KK; simp; (try subst hK)))
      refine nextK.of [0, 1, 5] [] (m - 1) (by omega) (by simp [hF]) ?_
      refine ⟨i + 1, by omega, ?_, ?_⟩
      · intro j hj hji
        rcases Nat.lt_or_ge j i with h' | h'
        · exact hall j hj h'
        · obtain rfl : j = i := by omega
          exact he
      · simp
        exact IntWalk.i64_in _ (by omega)
  · have hb : behindOf l v = [] := behindOf_none fun hm => by
      obtain ⟨j, hj, he⟩ := List.getElem_of_mem hm
      exact hall j hj (by omega) he
    repeat first
      | refine VS.seq ?_
      | refine VS.exit ?_
      | (refine VS.keepAt 6 [] ?_; generalize hK : VS _ _ _ = KK; (try simp); (try subst hK); refine VS.region tabOk (id := 6) [] (by kernel_rfl) ?_; generalize hK : VS _ _ _ = KK; simp (maxSteps := 1000000) [hF]; (try subst hK); try (refine VS.keep [4] ?_; generalize hK : VS _ _ _ = KK; simp; (try subst hK)))
    refine VS.chill 4 ?_
    generalize hK : VS _ _ _ = KK; simp [hF, St.chill]; (try subst hK)
    try refine VS.ret ?_
    repeat first | refine blockN_ret ?_ | refine loopN_ret ?_
    refine endK.of [4] [] [] (by simp [hF]) (by simp [covers, mpre]) ?_
    simp [hF, retK, hb]

/-- Deeds, made small, one after the other. -/
noncomputable def runOf (L : List Th) (l : List Deed) : List Th := l.foldl (fun L d => (doOf L (smallOf d)).1) L
noncomputable def playedOf (l : List Deed) : List Th := runOf L0 (l.take 120)
theorem runOf_OK {L : List Th} (h : OK L) (hpos : 0 < L.length) : ∀ (l : List Deed), OK (runOf L l) ∧ 0 < (runOf L l).length := by
  intro l
  induction l generalizing L with
  | nil => exact ⟨h, hpos⟩
  | cons d l ih =>
    obtain ⟨h1, h2, _⟩ := doOf_OK h hpos (smallOf d)
    exact ih h1 h2
theorem playedOf_OK (l : List Deed) : OK (playedOf l) ∧ 0 < (playedOf l).length := runOf_OK L0_OK (by simp [L0]) _
theorem runOf_take {L : List Th} {l : List Deed} {i : Nat} (h : i < l.length) : runOf L (l.take (i + 1)) = (doOf (runOf L (l.take i)) (smallOf l[i])).1 := by
  rw [List.take_add_one, List.getElem?_eq_getElem h]
  show List.foldl _ L (l.take i ++ [l[i]]) = _
  rw [List.foldl_append]; rfl

/- cabochon/cabochonlaw18.played -/
theorem played_ok (ex : Bool) (l : List Deed) : Meets Try.prog 11 [] (.cons (.imm 3 (dDeeds l) ex) .nil)
    fun av X κ => av = .ptr 0 [.d] ∧ X = [dL (playedOf l)] ∧ κ = [] := by
  refine Meets.of_vs tabOk Try.func11 (body := ?_) ?_ (by kernel_rfl) Try.ntmps11 (rs := [.tmp 2]) (by kernel_rfl) rfl (by simp [AV.len]) (by simp only [envOf]; exact rfl) ?_
  rotate_left
  · rfl
  intro w0 I0 F0 hF
  repeat first
    | refine VS.seq ?_
    | (refine VS.keepAt 0 [0] ?_; generalize hK : VS _ _ _ = KK; (try simp); (try subst hK); refine VS.region tabOk (id := 0) [] (by kernel_rfl) ?_; generalize hK : VS _ _ _ = KK; simp (maxSteps := 1000000) [hF]; (try subst hK); try (refine VS.keep [0] ?_; generalize hK : VS _ _ _ = KK; simp; (try subst hK)))
    | (refine VS.keepAt 1 [0] ?_; generalize hK : VS _ _ _ = KK; (try simp); (try subst hK); refine VS.region tabOk (id := 1) [] (by kernel_rfl) ?_; generalize hK : VS _ _ _ = KK; simp (maxSteps := 1000000) [hF]; (try subst hK); try (refine VS.keep [0, 3] ?_; generalize hK : VS _ _ _ = KK; simp; (try subst hK)))
  refine (new_ok).call [] (by simp) (by simp (maxSteps := 1000000) [hF]) (by simp (maxSteps := 1000000) [hF]) (by simp (maxSteps := 1000000) [hF]) (by simp) ?_
  rintro av X κ ⟨rfl, rfl, rfl⟩
  generalize hK : VS _ _ _ = KK; simp (maxSteps := 1000000) [hF]; (try subst hK)
  repeat first
    | refine VS.seq ?_
    | refine VS.block ?_
    | (refine VS.keepAt 2 [0, 3] ?_; generalize hK : VS _ _ _ = KK; (try simp); (try subst hK); refine VS.region tabOk (id := 2) [] (by kernel_rfl) ?_; generalize hK : VS _ _ _ = KK; simp (maxSteps := 1000000) [hF]; (try subst hK); try (refine VS.keep [0, 3, 4] ?_; generalize hK : VS _ _ _ = KK; simp; (try subst hK)))
  refine VS.rounds (fun n st => ∃ (i : Nat), i + n = 120 ∧ i ≤ l.length ∧ st = ⟨[(0, .imm 3 (dDeeds l) ex), (3, .ptr 0 [.d]), (4, avInt i)], [dL (runOf L0 (l.take i))], [], []⟩) ⟨120, 0, rfl, by omega, by simp [runOf, dL]⟩ ?_
  rintro n st ⟨i, hi, hil, rfl⟩
  obtain ⟨hok, hpos⟩ := runOf_OK L0_OK (by simp [L0]) (l.take i)
  by_cases hfin : i < l.length ∧ i < 120
  · obtain ⟨hlt, h120⟩ := hfin
    have b1 : (i : Int) < l.length := by omega
    have b2 : (i : Int) < 120 := by omega
    have hn := dDeeds_nth hlt
    have hnext := runOf_take (L := L0) hlt
    repeat first
      | refine VS.seq ?_
      | refine VS.skip ?_
      | refine VS.block ?_
      | (refine VS.keepAt 3 [0, 3, 4] ?_; generalize hK : VS _ _ _ = KK; (try simp); (try subst hK); refine VS.region tabOk (id := 3) [(4, 10)] (by kernel_rfl) ?_; generalize hK : VS _ _ _ = KK; simp (maxSteps := 1000000) [hF, b1, b2, hn, hlt]; (try subst hK); try (refine VS.keep [0, 3, 4, 13] ?_; generalize hK : VS _ _ _ = KK; simp; (try subst hK)))
      | (refine VS.keepAt 5 [0, 3, 4] ?_; generalize hK : VS _ _ _ = KK; (try simp); (try subst hK); refine VS.region tabOk (id := 5) [] (by kernel_rfl) ?_; generalize hK : VS _ _ _ = KK; simp (maxSteps := 1000000) [hF, b1, b2, hn, hlt]; (try subst hK); try (refine VS.keep [0, 3, 4] ?_; generalize hK : VS _ _ _ = KK; simp; (try subst hK)))
      | (refine VS.cond ?_; generalize hK1 : VS _ _ _ = KK1; generalize hK2 : VS _ _ _ = KK2; simp (maxSteps := 1000000) [hF, b1, b2, hn, hlt]; (try subst hK1); (try subst hK2))
    refine (small_ok l[i]).call [] (by simp) (by simp (maxSteps := 1000000) [hF, avDeed]) (by simp (maxSteps := 1000000) [hF, avDeed]) (by simp (maxSteps := 1000000) [hF, avDeed]) (by simp) ?_
    rintro av X κ ⟨rfl, rfl, rfl⟩
    generalize hK : VS _ _ _ = KK; simp (maxSteps := 1000000) [hF, avDeed]; (try subst hK)
    refine (do_ok hok (smallOf l[i])).call [(0, [])] (by simp) (by simp (maxSteps := 1000000) [hF, dL, avDeed]) (by simp (maxSteps := 1000000) [hF, dL, avDeed]) (by simp (maxSteps := 1000000) [hF, dL, avDeed]) (by simp) ?_
    rintro av X κ ⟨rfl, rfl, rfl⟩
    generalize hK : VS _ _ _ = KK; simp (maxSteps := 1000000) [hF, dL, avDeed]; (try subst hK)
    repeat first
      | refine VS.nil ?_
      | refine blockN_normal ?_
      | refine loopN_normal ?_
      | (refine VS.keepAt 4 [0, 3, 4] ?_; generalize hK : VS _ _ _ = KK; (try simp); (try subst hK); refine VS.region tabOk (id := 4) [] (by kernel_rfl) ?_; generalize hK : VS _ _ _ = KK; simp (maxSteps := 1000000) [hF]; (try subst hK); try (refine VS.keep [0, 3, 4] ?_; generalize hK : VS _ _ _ = KK; simp; (try subst hK)))
    refine nextK.of [0, 3, 4] [0] (n - 1) (by omega) (by simp [hF]) ?_
    refine ⟨i + 1, by omega, by omega, ?_⟩
    simp [hnext, dL]
    exact IntWalk.i64_in _ (by omega)
  · by_cases hlt : i < l.length
    · have b1 : (i : Int) < l.length := by omega
      have b2 : ¬ (i : Int) < 120 := by omega
      have e : runOf L0 (l.take i) = playedOf l := by
        have : i = 120 := by omega
        unfold playedOf; rw [this]
      rw [e]
      repeat first
        | refine VS.seq ?_
        | refine VS.exit ?_
        | (refine VS.keepAt 3 [0, 3, 4] ?_; generalize hK : VS _ _ _ = KK; (try simp); (try subst hK); refine VS.region tabOk (id := 3) [(4, 10)] (by kernel_rfl) ?_; generalize hK : VS _ _ _ = KK; simp (maxSteps := 1000000) [hF, b1, b2]; (try subst hK); try (refine VS.keep [0, 3, 4, 13] ?_; generalize hK : VS _ _ _ = KK; simp; (try subst hK)))
        | (refine VS.keepAt 6 [3] ?_; generalize hK : VS _ _ _ = KK; (try simp); (try subst hK); refine VS.region tabOk (id := 6) [] (by kernel_rfl) ?_; generalize hK : VS _ _ _ = KK; simp (maxSteps := 1000000) [hF, b1, b2]; (try subst hK); try (refine VS.keep [2] ?_; generalize hK : VS _ _ _ = KK; simp; (try subst hK)))
        | (refine VS.cond ?_; generalize hK1 : VS _ _ _ = KK1; generalize hK2 : VS _ _ _ = KK2; simp (maxSteps := 1000000) [hF, b1, b2]; (try subst hK1); (try subst hK2))
      try refine VS.ret ?_
      repeat first | refine blockN_ret ?_ | refine loopN_ret ?_
      refine endK.of [2] [0] [] (by simp [hF]) (by simp [covers, mpre]) ?_
      simp [hF, retK, dL]
    · have b1 : ¬ (i : Int) < l.length := by omega
      have e : runOf L0 (l.take i) = playedOf l := by
        unfold playedOf
        rw [List.take_of_length_le (by omega), List.take_of_length_le (by omega)]
      rw [e]
      repeat first
        | refine VS.seq ?_
        | refine VS.exit ?_
        | (refine VS.keepAt 3 [0, 3, 4] ?_; generalize hK : VS _ _ _ = KK; (try simp); (try subst hK); refine VS.region tabOk (id := 3) [(4, 10)] (by kernel_rfl) ?_; generalize hK : VS _ _ _ = KK; simp (maxSteps := 1000000) [hF, b1]; (try subst hK); try (refine VS.keep [0, 3, 4, 13] ?_; generalize hK : VS _ _ _ = KK; simp; (try subst hK)))
        | (refine VS.keepAt 6 [3] ?_; generalize hK : VS _ _ _ = KK; (try simp); (try subst hK); refine VS.region tabOk (id := 6) [] (by kernel_rfl) ?_; generalize hK : VS _ _ _ = KK; simp (maxSteps := 1000000) [hF, b1]; (try subst hK); try (refine VS.keep [2] ?_; generalize hK : VS _ _ _ = KK; simp; (try subst hK)))
        | (refine VS.cond ?_; generalize hK1 : VS _ _ _ = KK1; generalize hK2 : VS _ _ _ = KK2; simp (maxSteps := 1000000) [hF, b1]; (try subst hK1); (try subst hK2))
      try refine VS.ret ?_
      repeat first | refine blockN_ret ?_ | refine loopN_ret ?_
      refine endK.of [2] [0] [] (by simp [hF]) (by simp [covers, mpre]) ?_
      simp [hF, retK, dL]
end Go.Proofs.Ytahgopdamgagkaa

/- The example. -/
namespace Go.Proofs.Ytahgopdamgagkaa
set_option linter.all false
open Go.Vc Go.Proofs
set_option linter.unusedSimpArgs false
set_option linter.unusedVariables false
set_option maxRecDepth 100000
set_option maxHeartbeats 4000000
attribute [local irreducible] CallW EqK

def L1 : List Th := [⟨0, -1, -1, -1, [], []⟩, ⟨1, -1, -1, -1, [], []⟩]
def L2 : List Th := [⟨0, -1, -1, -1, [], []⟩, ⟨1, -1, -1, -1, [], []⟩, ⟨0, 0, -1, -1, [], []⟩]
def L3 : List Th := [⟨0, -1, -1, -1, [], []⟩, ⟨1, -1, -1, -1, [], []⟩, ⟨0, 0, -1, -1, [], [1]⟩]
theorem ord20 : ordOf L2 1 = some [1] := ordOf_of (n := 5) (by decide)
theorem ord30 : ordOf L3 0 = some [0] := ordOf_of (n := 5) (by decide)
theorem ord31 : ordOf L3 1 = some [1] := ordOf_of (n := 5) (by decide)
theorem ord32 : ordOf L3 2 = some [2, 1, 0] := ordOf_of (n := 5) (by decide)
theorem mod0 : moduleOf L0 = (L1, 1, 0) := by simp [moduleOf, L0, L1, newTh]
theorem cls1 : classOf L1 0 = (L2, 2, 0) := by simp [classOf, L1, L2, newTh, val, thAt]
theorem put2 : putI L2 2 1 = (L3, 0) := by
  have hw : withI L2 (2 : Int).toNat (1 :: (thAt L2 2).ins) = L3 := rfl
  unfold putI
  rw [if_neg (by decide), if_neg (by decide), if_neg, hw, if_pos]
  · intro k hk
    have h3 : k = 0 ∨ k = 1 ∨ k = 2 := by simp [L2] at hk; omega
    rcases h3 with rfl | rfl | rfl
    · exact ⟨_, ord30⟩
    · exact ⟨_, ord31⟩
    · exact ⟨_, ord32⟩
  · rintro (h | h)
    · omega
    · simp [ordL, ord20, hasN] at h
theorem L1_OK : OK L1 ∧ 0 < L1.length := by
  have := doOf_OK L0_OK (by simp [L0]) ⟨1, 0, 0⟩
  simp only [doOf, mod0] at this
  exact ⟨this.1, this.2.1⟩
theorem L2_OK : OK L2 ∧ 0 < L2.length := by
  have := doOf_OK L1_OK.1 L1_OK.2 ⟨0, 0, 0⟩
  simp only [doOf, cls1] at this
  exact ⟨this.1, this.2.1⟩
theorem L3_OK : OK L3 ∧ 0 < L3.length := by
  have := doOf_OK L2_OK.1 L2_OK.2 ⟨2, 2, 1⟩
  simp only [doOf, put2] at this
  exact ⟨this.1, this.2.1⟩

/- cabochon/cabochonlaw18.sane -/
theorem sane_ok : Meets Try.prog 15 [] .nil fun av X κ => av = .val (.bool true) ∧ X = [] ∧ κ = [] := by
  have ho : ordL L3 2 = [2, 1, 0] := by simp [ordL, ord32]
  have hb2 : ∀ t' : Nat, (2 : Int) = t' → t' < L2.length → val L2 1 = true → (thAt L2 1).kind = 1 → hasN (thAt L2 2).ins 1 = false → (1 : Int) ≠ 2 → hasN (ordL L2 1) 2 = false → ∃ r, Base (withI L2 t' (1 :: (thAt L2 2).ins)) r := fun t ht hl hv hk hd _ hh => by
    have e : t = 2 := by omega
    subst e
    exact baseI L2_OK.1 1 2 hl hv hk hd hh
  have hd : dInts [2, 1, 0] = .cons (.val (.int .i64 2)) (.cons (.val (.int .i64 1)) (.cons (.val (.int .i64 0)) .nil)) := rfl
  refine Meets.of_vs tabOk Try.func15 (body := ?_) ?_ (by kernel_rfl) Try.ntmps15 (rs := [.tmp 0]) (by kernel_rfl) rfl (by simp [AV.len]) (by simp only [envOf]; exact rfl) ?_
  rotate_left
  · rfl
  intro w0 I0 F0 hF
  repeat first
    | refine VS.seq ?_
    | (refine VS.keepAt 0 [] ?_; generalize hK : VS _ _ _ = KK; (try simp); (try subst hK); refine VS.region tabOk (id := 0) [] (by kernel_rfl) ?_; generalize hK : VS _ _ _ = KK; simp (maxSteps := 1000000) [hF]; (try subst hK); try (refine VS.keep [] ?_; generalize hK : VS _ _ _ = KK; simp; (try subst hK)))
    | (refine VS.keepAt 1 [] ?_; generalize hK : VS _ _ _ = KK; (try simp); (try subst hK); refine VS.region tabOk (id := 1) [] (by kernel_rfl) ?_; generalize hK : VS _ _ _ = KK; simp (maxSteps := 1000000) [hF]; (try subst hK); try (refine VS.keep [1] ?_; generalize hK : VS _ _ _ = KK; simp; (try subst hK)))
  refine (new_ok).call [] (by simp) (by simp (maxSteps := 1000000) [hF]) (by simp (maxSteps := 1000000) [hF]) (by simp (maxSteps := 1000000) [hF]) (by simp) ?_
  rintro av X κ ⟨rfl, rfl, rfl⟩
  generalize hK : VS _ _ _ = KK; simp (maxSteps := 1000000) [hF]; (try subst hK)
  repeat first
    | refine VS.seq ?_
    | (refine VS.keepAt 2 [1] ?_; generalize hK : VS _ _ _ = KK; (try simp); (try subst hK); refine VS.region tabOk (id := 2) [] (by kernel_rfl) ?_; generalize hK : VS _ _ _ = KK; simp (maxSteps := 1000000) [hF]; (try subst hK); try (refine VS.keep [1, 2, 3] ?_; generalize hK : VS _ _ _ = KK; simp; (try subst hK)))
  refine (module_ok L0 L0_OK.len).call [(0, [])] (by simp) (by simp (maxSteps := 1000000) [hF, dL, mod0]) (by simp (maxSteps := 1000000) [hF, dL, mod0]) (by simp (maxSteps := 1000000) [hF, dL, mod0]) (by simp) ?_
  rintro av X κ ⟨rfl, rfl, rfl⟩
  generalize hK : VS _ _ _ = KK; simp (maxSteps := 1000000) [hF, dL, mod0]; (try subst hK)
  repeat first
    | refine VS.seq ?_
    | (refine VS.keepAt 3 [1, 2, 3] ?_; generalize hK : VS _ _ _ = KK; (try simp); (try subst hK); refine VS.region tabOk (id := 3) [] (by kernel_rfl) ?_; generalize hK : VS _ _ _ = KK; simp (maxSteps := 1000000) [hF]; (try subst hK); try (refine VS.keep [1, 2, 3, 4, 5] ?_; generalize hK : VS _ _ _ = KK; simp; (try subst hK)))
  refine (class_ok L1 L1_OK.1.len 0).call [(0, [])] (by simp) (by simp (maxSteps := 1000000) [hF, dL, cls1]) (by simp (maxSteps := 1000000) [hF, dL, cls1]) (by simp (maxSteps := 1000000) [hF, dL, cls1]) (by simp) ?_
  rintro av X κ ⟨rfl, rfl, rfl⟩
  generalize hK : VS _ _ _ = KK; simp (maxSteps := 1000000) [hF, dL, cls1]; (try subst hK)
  repeat first
    | refine VS.seq ?_
    | (refine VS.keepAt 4 [1, 2, 3, 4, 5] ?_; generalize hK : VS _ _ _ = KK; (try simp); (try subst hK); refine VS.region tabOk (id := 4) [] (by kernel_rfl) ?_; generalize hK : VS _ _ _ = KK; simp (maxSteps := 1000000) [hF]; (try subst hK); try (refine VS.keep [1, 2, 3, 4, 5, 6] ?_; generalize hK : VS _ _ _ = KK; simp; (try subst hK)))
  refine (include_ok L2_OK.1.wf 2 1 hb2).call [(0, [])] (by simp) (by simp (maxSteps := 1000000) [hF, dL, put2]) (by simp (maxSteps := 1000000) [hF, dL, put2]) (by simp (maxSteps := 1000000) [hF, dL, put2]) (by simp) ?_
  rintro av X κ ⟨rfl, rfl, rfl⟩
  generalize hK : VS _ _ _ = KK; simp (maxSteps := 1000000) [hF, dL, put2]; (try subst hK)
  repeat first
    | refine VS.seq ?_
    | (refine VS.keepAt 5 [1, 2, 3, 4, 5, 6] ?_; generalize hK : VS _ _ _ = KK; (try simp); (try subst hK); refine VS.region tabOk (id := 5) [] (by kernel_rfl) ?_; generalize hK : VS _ _ _ = KK; simp (maxSteps := 1000000) [hF]; (try subst hK); try (refine VS.keep [2, 3, 4, 5, 6, 7, 8] ?_; generalize hK : VS _ _ _ = KK; simp; (try subst hK)))
  refine (Order_yes L3_OK.1.wf 2 (by decide)).call [(0, [])] (by simp) (by simp (maxSteps := 1000000) [hF, dL, ho]) (by simp (maxSteps := 1000000) [hF, dL, ho]) (by simp (maxSteps := 1000000) [hF, dL, ho]) (by simp) ?_
  rintro av X κ ⟨rfl, rfl, rfl⟩
  generalize hK : VS _ _ _ = KK; simp (maxSteps := 1000000) [hF, dL, ho]; (try subst hK)
  repeat first
    | refine VS.seq ?_
    | (refine VS.keepAt 6 [2, 3, 4, 5, 6, 7, 8] ?_; generalize hK : VS _ _ _ = KK; (try simp); (try subst hK); refine VS.region tabOk (id := 6) [(2, 32), (6, 36), (10, 40), (14, 44)] (by kernel_rfl) ?_; generalize hK : VS _ _ _ = KK; simp (maxSteps := 1000000) [hF]; (try subst hK); try (refine VS.keep [0] ?_; generalize hK : VS _ _ _ = KK; simp; (try subst hK)))
  refine (same_is false true [2, 1, 0] [2, 1, 0] (by simp)).call [(1, [])] (by simp) (by simp (maxSteps := 1000000) [hF, hd]) (by simp (maxSteps := 1000000) [hF, hd]) (by simp (maxSteps := 1000000) [hF, hd]) (by simp) ?_
  rintro av X κ ⟨rfl, rfl, rfl⟩
  generalize hK : VS _ _ _ = KK; simp (maxSteps := 1000000) [hF, hd]; (try subst hK)
  try refine VS.ret ?_
  repeat first | refine blockN_ret ?_ | refine loopN_ret ?_
  refine endK.of [0] [] [] (by simp [hF]) (by simp [covers, mpre]) ?_
  simp [hF, retK]
end Go.Proofs.Ytahgopdamgagkaa

/- From what a row's argument reads as to trees that cannot change. -/
namespace Go.Vc
set_option linter.all false
open T (hdr blk)

/-- The blocks that are there. -/
abbrev allB (w : World) : Nat → Prop := fun b => b < w.heap.size

/-- What a reading of a type shows: a tree that cannot change, of 'z' cells, with such a content. -/
def Reads (P : Program) (t : TypeId) (z : Nat) (good : D → Prop) : Prop :=
  ∀ (H : Type) (enc : TypeId × Value → H) (w : World) (fuel : Nat) (cs : List Value) (x : DataW H × List MemPlace), DataW.trod enc P w 0 (fun _ => true) true fuel t cs = some x →
    ∃ g : G, T.Holds w.heap (allB w) g ∧ g.free = true ∧ g.cells = cs ∧ g.width = z ∧ good g.erase

theorem reads_int {P : Program} {t : TypeId} {k : IntKind} (ht : P.underlying t = some (.int k)) : Reads P t 1 fun d => ∃ n, d = .val (.int k n) := fun H enc w fuel cs x h => by
  obtain ⟨n, rfl, _, _⟩ := DataW.trod_int ht h
  exact ⟨.val (.int k n), rfl, rfl, rfl, rfl, n, rfl⟩
theorem reads_str {P : Program} {t : TypeId} (ht : P.underlying t = some .string) : Reads P t 1 fun d => ∃ s, d = .val (.string s) := fun H enc w fuel cs x h => by
  obtain ⟨s, rfl, _, _⟩ := DataW.trod_string ht h
  exact ⟨.val (.string s), rfl, rfl, rfl, rfl, s, rfl⟩
theorem reads_bool {P : Program} {t : TypeId} (ht : P.underlying t = some .bool) : Reads P t 1 fun d => ∃ b, d = .val (.bool b) := fun H enc w fuel cs x h => by
  obtain ⟨b, rfl, _⟩ := DataW.trod_bool ht h
  exact ⟨.val (.bool b), rfl, rfl, rfl, rfl, b, rfl⟩

/-- The fields of a struct, one behind the other. -/
def FieldsRead (P : Program) : List Field → List (Nat × (D → Prop)) → Nat → Prop
  | [], [], _ => True
  | f :: fs, (z, good) :: r, o => Reads P f.type z good ∧ P.cellsOf f.type = z ∧ f.offset = o ∧ FieldsRead P fs r (o + z)
  | _, _, _ => False
def fieldsGood : List (Nat × (D → Prop)) → D → Prop
  | [], d => d = .nil
  | (_, good) :: r, d => ∃ a t, d = .cons a t ∧ good a ∧ fieldsGood r t
def fieldsSize : List (Nat × (D → Prop)) → Nat
  | [] => 0
  | (z, _) :: r => z + fieldsSize r

theorem reads_struct {P : Program} {t : TypeId} {fs : Array Field} (ht : P.underlying t = some (.struct fs)) {gs : List (Nat × (D → Prop))} (hf : FieldsRead P fs.toList gs 0) (hz : P.cellsOf t = fieldsSize gs) :
    Reads P t (fieldsSize gs) fun d => ∃ s, d = .agg s ∧ fieldsGood gs s := fun H enc w fuel cs x h => by
  obtain ⟨xs, n, _, _, hl, hlen, he⟩ := DataW.trod_struct ht h
  have each : ∀ f ∈ fs.toList, ∃ y, DataW.trod enc P w 0 (fun _ => true) true n f.type ((cs.drop f.offset).take (P.cellsOf f.type)) = some y := fun f hm => by
    obtain ⟨i, hi, rfl⟩ := List.getElem_of_mem hm
    have h1 := he i fs[i] (by simp at hi; simp [hi])
    rw [List.getElem?_eq_getElem (by simp at hi; omega)] at h1
    exact ⟨_, h1⟩
  have key : ∀ (l : List Field) (gs : List (Nat × (D → Prop))) (o : Nat), FieldsRead P l gs o → (∀ f ∈ l, f ∈ fs.toList) → cs.length = o + fieldsSize gs →
      ∃ s : G, T.Holds w.heap (allB w) s ∧ s.free = true ∧ s.cells = cs.drop o ∧ s.width = fieldsSize gs ∧ fieldsGood gs s.erase := by
    intro l
    induction l with
    | nil =>
      intro gs o h1 _ h2
      cases gs with
      | nil => exact ⟨.nil, trivial, rfl, by simp only [fieldsSize] at h2; simp [T.cells, h2], rfl, rfl⟩
      | cons _ _ => exact h1.elim
    | cons f l ih =>
      intro gs o h1 hm h2
      cases gs with
      | nil => exact h1.elim
      | cons p r =>
        obtain ⟨z, good⟩ := p
        obtain ⟨k1, k2, k3, k4⟩ := h1
        simp only [fieldsSize] at h2
        obtain ⟨s, s1, s2, s3, s4, s5⟩ := ih r (o + z) k4 (fun f hf => hm f (by simp [hf])) (by omega)
        obtain ⟨y, hy⟩ := each f (hm f (by simp))
        obtain ⟨g, g1, g2, g3, g4, g5⟩ := k1 H enc w n _ y hy
        refine ⟨.cons g s, ⟨g1, s1⟩, by simp [T.free, g2, s2], ?_, by simp [T.width, g4, s4, fieldsSize], _, _, rfl, g5, s5⟩
        simp only [T.cells, g3, s3, k2, k3]
        rw [← List.drop_drop, List.take_append_drop]
  obtain ⟨s, s1, s2, s3, s4, s5⟩ := key fs.toList gs 0 hf (fun _ h => h) (by rw [hl, hz]; omega)
  exact ⟨.agg s, s1, s2, by simpa [T.cells] using s3, s4, _, rfl, s5⟩

theorem erase_agg {g : G} {s : D} (h : g.erase = .agg s) : ∃ s', g = .agg s' ∧ s'.erase = s := by
  cases g <;> simp only [T.erase] at h <;> cases h
  exact ⟨_, rfl, rfl⟩
theorem erase_cons {g : G} {a t : D} (h : g.erase = .cons a t) : ∃ a' t', g = .cons a' t' ∧ a'.erase = a ∧ t'.erase = t := by
  cases g <;> simp only [T.erase] at h <;> cases h
  exact ⟨_, _, rfl, rfl, rfl⟩
theorem erase_val {g : G} {v : Value} (h : g.erase = .val v) : g = .val v := by
  cases g <;> simp only [T.erase] at h <;> cases h
  rfl
theorem erase_nil {g : G} (h : g.erase = .nil) : g = .nil := by
  cases g <;> simp only [T.erase] at h <;> cases h
  rfl

theorem map_of {α β : Type} {f : β → α} : ∀ {l : List α}, (∀ x ∈ l, ∃ y, x = f y) → ∃ ys : List β, l = ys.map f
  | [], _ => ⟨[], rfl⟩
  | x :: l, h => by
    obtain ⟨y, hy⟩ := h x (by simp)
    obtain ⟨ys, hys⟩ := map_of (l := l) (f := f) fun x hx => h x (List.mem_cons_of_mem _ hx)
    exact ⟨y :: ys, by rw [hy, hys]; rfl⟩

theorem cells?_at {w : World} {a : Addr} {n : Nat} {cs : List Value} (h : w.cells? 0 a n = some cs) : cs.length = n ∧ ∀ r v, cs[r]? = some v → w.cell? (a.add r) = some v := by
  obtain ⟨_, h1, h2⟩ := World.cells?_some h
  refine ⟨h1, fun r v hv => ?_⟩
  have hr : r < n := by rw [← h1]; exact (List.getElem?_eq_some_iff.1 hv).1
  have := h2 r hr
  rw [this, hv]

/-- The elements of a slice, one behind the other. -/
theorem reads_elems {P : Program} {e : TypeId} {z : Nat} {good : D → Prop} (he : Reads P e z good) {H : Type} {enc : TypeId × Value → H} {w : World} {n : Nat} {at_ : Nat → List Value} : ∀ (len i0 : Nat),
    (∀ i, i < len → ∃ y, DataW.trod enc P w 0 (fun _ => true) true n e (at_ (i0 + i)) = some y) →
    ∃ s : G, ∃ l : List D, T.Holds w.heap (allB w) s ∧ s.free = true ∧ s.uni z ∧ s.len = len ∧ s.erase = sq l ∧ l.length = len ∧ (∀ d ∈ l, good d) ∧ s.cells = ((List.range len).map fun i => at_ (i0 + i)).flatten
  | 0, i0, _ => ⟨.nil, [], trivial, rfl, trivial, rfl, rfl, rfl, by simp, rfl⟩
  | len + 1, i0, h => by
    obtain ⟨y, hy⟩ := h 0 (by omega)
    obtain ⟨g, g1, g2, g3, g4, g5⟩ := he H enc w n _ y hy
    obtain ⟨s, l, s1, s2, s3, s4, s5, s6, s7, s8⟩ := reads_elems he len (i0 + 1) fun i hi => by
      have := h (i + 1) (by omega)
      rwa [show i0 + (i + 1) = i0 + 1 + i by omega] at this
    refine ⟨.cons g s, g.erase :: l, ⟨g1, s1⟩, by simp [T.free, g2, s2], ⟨g4, s3⟩, by simp [T.len, s4], by simp [T.erase, sq, s5], by simp [s6], fun d hd => ?_, ?_⟩
    · rcases List.mem_cons.1 hd with rfl | hd
      · exact g5
      · exact s7 d hd
    · rw [List.range_succ_eq_map]
      simp only [T.cells, g3, s8, List.map_cons, List.flatten_cons, List.map_map, Nat.add_zero]
      congr 3
      funext i
      simp only [Function.comp]
      congr 1; omega

theorem flat_at {α : Type} {z : Nat} (hz : 0 < z) : ∀ (l : List (List α)) (_ : ∀ c ∈ l, c.length = z) (j : Nat) (v : α), l.flatten[j]? = some v → ∃ c, l[j / z]? = some c ∧ c[j % z]? = some v
  | [], _, j, v, h => by simp at h
  | c :: l, hl, j, v, h => by
    have hc := hl c (by simp)
    simp only [List.flatten_cons] at h
    rcases Nat.lt_or_ge j z with hj | hj
    · rw [List.getElem?_append_left (by omega)] at h
      exact ⟨c, by rw [Nat.div_eq_of_lt hj]; rfl, by rw [Nat.mod_eq_of_lt hj]; exact h⟩
    · rw [List.getElem?_append_right (by omega), hc] at h
      obtain ⟨c', h1, h2⟩ := flat_at hz l (fun c hc => hl c (by simp [hc])) (j - z) v h
      refine ⟨c', ?_, ?_⟩
      · rw [show j / z = (j - z) / z + 1 by rw [Nat.div_eq_sub_div hz hj]]; simpa using h1
      · rw [Nat.mod_eq_sub_mod hj]; exact h2

/-- A slice that is an argument: it cannot change. -/
theorem imm_of_trod {P : Program} {t e : TypeId} {z : Nat} {good : D → Prop} (ht : P.underlying t = some (.slice e)) (he : Reads P e z good) (hc : P.cellsOf e = z) (hz : 0 < z) {H : Type} {enc : TypeId × Value → H} {w : World}
    {r : Reach} {b0 : Nat} {v : Value} {d : DataW H} {ps : List MemPlace} (hv : Value.okWide P w r b0 t v) (h : DataW.Trod enc P w 0 (fun _ => true) true t v d ps) :
    ∃ l : List D, (∀ d ∈ l, good d) ∧ l.length ≤ 2 ^ 63 - 1 ∧ Rl w.heap (allB w) [] (.imm z (sq l) false) true [v] := by
  obtain ⟨fuel, h⟩ := h
  have hok : Cell.ok P w r b0 t v := by
    unfold Value.okWide at hv
    rw [ht] at hv
    simp only [Cell.okWide, ht] at hv
    exact hv
  have hform : v = .slice none 0 0 ∨ ∃ a len cap, v = .slice (some a) len cap ∧ len ≤ cap ∧ (cap : Int) ≤ IntKind.i64.max ∧ a.spot = none := by
    unfold Cell.ok at hok
    rw [ht] at hok
    split at hok <;> try exact hok.elim
    all_goals first
      | (rename_i heq; cases heq; done)
      | skip
    · exact .inl rfl
    · exact .inr ⟨_, _, _, rfl, hok.1, hok.2.1, hok.2.2.2.1⟩
  rcases hform with rfl | ⟨a, len, cap, rfl, hlc, hcm, hspot⟩
  · exact ⟨[], by simp, by simp, _, rfl, .nil, rfl, ⟨trivial, trivial, fun _ => rfl, rfl, rfl, rfl⟩, fun h => by cases h⟩
  · obtain ⟨b, o, sp⟩ := a
    simp only at hspot
    subst hspot
    have hcm' : cap ≤ 2 ^ 63 - 1 := by
      have : IntKind.i64.max = 2 ^ 63 - 1 := by decide
      omega
    rcases cap with _ | cap
    · obtain rfl : len = 0 := by omega
      exact ⟨[], by simp, by simp, _, rfl, .nil, rfl, ⟨trivial, trivial, fun _ => rfl, rfl, rfl, rfl⟩, fun h => by cases h⟩
    · rcases DataW.trod_slice ht h with ⟨h0, _⟩ | ⟨a, len', cap', elems, rest, n, _, h0, _, hb, hl, hm, hlen, hel, hsp, _⟩
      · simp [Value.cells] at h0
      · simp only [Value.cells, List.cons.injEq, Value.slice.injEq, Option.some.injEq, and_true] at h0
        obtain ⟨rfl, rfl, rfl⟩ := h0
        obtain ⟨hsp1, hsp2⟩ := hsp rfl
        have hadd : ∀ k, (⟨b, o, none⟩ : Addr).add k = ⟨b, o + k, none⟩ := fun k => by unfold Addr.add; split <;> simp_all
        rw [hc] at hel hsp2
        -- every element reads
        have each : ∀ i, i < cap + 1 → ∃ cs, w.cells? 0 ((⟨b, o, none⟩ : Addr).add (i * z)) z = some cs ∧ ∃ y, DataW.trod enc P w 0 (fun _ => true) true n e cs = some y := fun i hi => by
          by_cases h1 : i < len
          · have h2 := hel i h1
            rw [List.getElem?_eq_getElem (by omega)] at h2
            obtain ⟨cs, h3, h4⟩ := Option.bind_eq_some_iff.1 h2
            exact ⟨cs, h3, _, h4⟩
          · have h2 := hsp2 (i - len) (by omega)
            rw [List.getElem?_eq_getElem (by omega), show len + (i - len) = i by omega] at h2
            obtain ⟨cs, h3, h4⟩ := Option.bind_eq_some_iff.1 h2
            exact ⟨cs, h3, _, h4⟩
        -- the row
        obtain ⟨csl, hl1, _⟩ := each cap (by omega)
        obtain ⟨hl2, hl3⟩ := cells?_at hl1
        have hl4 := hl3 (z - 1) _ (List.getElem?_eq_getElem (by omega))
        rw [hadd] at hl4
        have hadd2 : ∀ (o' k : Nat), (⟨b, o', none⟩ : Addr).add k = ⟨b, o' + k, none⟩ := fun o' k => by unfold Addr.add; split <;> simp_all
        rw [hadd2] at hl4
        obtain ⟨row, e', fr, hrow⟩ : ∃ row e' fr, w.heap[b]? = some (.cells row e' fr) := by
          unfold World.cell? at hl4
          split at hl4
          · rename_i c _ _ heq; exact ⟨_, _, _, heq⟩
          · cases hl4
        have cell : ∀ k v, w.cell? ⟨b, k, none⟩ = some v → row[k]? = some v := fun k v hk => by
          unfold World.cell? at hk
          simp only [hrow] at hk
          simpa using hk
        have hblt : b < w.heap.size := by
          rcases Nat.lt_or_ge b w.heap.size with h' | h'
          · exact h'
          · rw [Array.getElem?_eq_none h'] at hrow; cases hrow
        have hsz : o + (cap + 1) * z ≤ row.size := by
          have h5 := cell _ _ hl4
          have h6 := (Array.getElem?_eq_some_iff.1 h5).1
          rw [Nat.add_mul]; omega
        obtain ⟨s, l, s1, s2, s3, s4, s5, s6, s7, s8⟩ := reads_elems (enc := enc) (w := w) (n := n) (at_ := fun i => (w.cells? 0 ((⟨b, o, none⟩ : Addr).add (i * z)) z).getD []) he len 0 fun i hi => by
          obtain ⟨cs, h1, h2⟩ := each (0 + i) (by omega)
          rw [h1]; exact h2
        refine ⟨l, s7, by omega, _, rfl, s, s5, ⟨s1, s3, fun _ => s2, rfl, s4.symm, hlc, hcm', fun _ => hblt, row, e', fr, hrow, (fun h => by cases h), hsz, fun j v hj => ?_⟩, fun h => by cases h⟩
        rw [s8] at hj
        obtain ⟨c, c1, c2⟩ := flat_at hz _ (fun c hcm => by
          obtain ⟨i, hi, rfl⟩ := List.mem_map.1 hcm
          obtain ⟨cs, h1, _⟩ := each (0 + i) (by have := List.mem_range.1 hi; omega)
          rw [h1]; exact (cells?_at h1).1) j v hj
        rw [List.getElem?_map] at c1
        cases hr : (List.range len)[j / z]? with
        | none => rw [hr] at c1; cases c1
        | some i =>
          rw [hr] at c1
          obtain ⟨hi1, hi2⟩ := List.getElem?_eq_some_iff.1 hr
          simp only [List.length_range] at hi1
          simp only [List.getElem_range] at hi2
          subst hi2
          obtain ⟨cs, h1, _⟩ := each (0 + j / z) (by omega)
          simp only [Option.map_some, Option.some.injEq, h1, Option.getD_some] at c1
          subst c1
          have h2 := (cells?_at h1).2 _ _ c2
          rw [hadd, hadd2] at h2
          have h3 := cell _ _ h2
          rw [← h3]
          congr 1
          have := Nat.div_add_mod j z
          rw [Nat.mul_comm] at this
          simp only [Nat.zero_add]
          omega
end Go.Vc
