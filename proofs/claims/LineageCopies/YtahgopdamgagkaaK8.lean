/- A copy of a lineage. -/
import Derived.Test.YtahgopdamgagkaaK6
import Derived.Test.YtahgopdamgagkaaRows
import Derived.Test.YtahgopdamgagkaaK7
import Derived.WalkKit
import Derived.ProofKit
import Derived.OpenShut
import Derived.ShutString
import Derived.ChangeOld
import Derived.Carry
namespace Go.Proofs.Ytahgopdamgagkaa
set_option linter.all false
open Go.Vc Go.Proofs
set_option linter.unusedSimpArgs false
set_option linter.unusedVariables false
set_option maxRecDepth 100000
set_option maxHeartbeats 4000000
attribute [local irreducible] CallW EqK

theorem dThs_same {L : List Th} {i : Nat} (h : i < L.length) : (dThs L).setN i (.agg (.cons (.val (.int .i64 L[i].kind)) (.cons (.val (.int .i64 L[i].sup)) (.cons (.val (.int .i64 L[i].obj)) (.cons (.val (.int .i64 L[i].own)) (.cons (.sl false () 1 (dInts L[i].bef)) (.cons (.sl false () 1 (dInts L[i].ins)) .nil))))))) = dThs L := by
  rw [dThs_set, List.set_getElem_self]

/- slices.Clone[[]cabochon/lineage.thing,cabochon/lineage.thing] -/
theorem clone_t (L : List Th) (hl : L.length ≤ 1000) (hp : 0 < L.length) : Meets Try.prog 39 [dL L] (.cons (.sub 0 [.d, .f 0] 0 L.length false) .nil)
    fun av X κ => av = .sub 1 [] 0 L.length false ∧ X = [dL L, .sl true () 6 (dThs L)] ∧ κ = [] := by
  have hz : ¬ L.length = 0 := by omega
  refine Meets.of_vs tabOk Try.func39 (body := ?_) ?_ (by kernel_rfl) Try.ntmps39 (rs := [.tmp 2]) (by kernel_rfl) rfl (by simp [AV.len]) (by simp only [envOf]; exact rfl) ?_
  rotate_left
  · rfl
  intro w0 I0 F0 hF
  repeat first
    | refine VS.seq ?_
    | refine VS.skip ?_
    | refine ⟨⟨by omega, by omega⟩, ?_⟩
    | (refine VS.keepAt 0 [0] ?_; generalize hK : VS _ _ _ = KK; (try simp); (try subst hK); refine VS.region tabOk (id := 0) [] (by kernel_rfl) ?_; generalize hK : VS _ _ _ = KK; simp (maxSteps := 1000000) [hF, dL, hz]; (try subst hK); try (refine VS.keep [0] ?_; generalize hK : VS _ _ _ = KK; simp; (try subst hK)))
    | (refine VS.keepAt 1 [0] ?_; generalize hK : VS _ _ _ = KK; (try simp); (try subst hK); refine VS.region tabOk (id := 1) [] (by kernel_rfl) ?_; generalize hK : VS _ _ _ = KK; simp (maxSteps := 1000000) [hF, dL, hz]; (try subst hK); try (refine VS.keep [0, 4] ?_; generalize hK : VS _ _ _ = KK; simp; (try subst hK)))
    | (refine VS.keepAt 3 [0] ?_; generalize hK : VS _ _ _ = KK; (try simp); (try subst hK); refine VS.region tabOk (id := 3) [] (by kernel_rfl) ?_; generalize hK : VS _ _ _ = KK; simp (maxSteps := 1000000) [hF, dL, hz]; (try subst hK); try (refine VS.keep [2] ?_; generalize hK : VS _ _ _ = KK; simp; (try subst hK)))
    | (refine VS.cond ?_; generalize hK1 : VS _ _ _ = KK1; generalize hK2 : VS _ _ _ = KK2; simp (maxSteps := 1000000) [hF, dL, hz]; (try subst hK1); (try subst hK2))
  try refine VS.ret ?_
  repeat first | refine blockN_ret ?_ | refine loopN_ret ?_
  refine endK.of [2] [0, 1] [] (by simp [hF]) (by simp [covers, mpre]) ?_
  simp [hF, retK, dL]

/- (*cabochon/lineage.Lineage).Copy -/
theorem copy_ok {L : List Th} (h : OK L) (hp : 0 < L.length) : Meets Try.prog 23 [dL L] (.cons (.ptr 0 [.d]) .nil)
    fun av X κ => av = .ptr 1 [.d] ∧ X = [dL L, dL L] ∧ κ = [] := by
  have hl := h.len
  have hz : ¬ L.length = 0 := by omega
  refine Meets.of_vs tabOk Try.func23 (body := ?_) ?_ (by kernel_rfl) Try.ntmps23 (rs := [.tmp 2]) (by kernel_rfl) rfl (by simp [AV.len]) (by simp only [envOf]; exact rfl) ?_
  rotate_left
  · rfl
  intro w0 I0 F0 hF
  repeat first
    | refine VS.seq ?_
    | (refine VS.keepAt 0 [0] ?_; generalize hK : VS _ _ _ = KK; (try simp); (try subst hK); refine VS.region tabOk (id := 0) [] (by kernel_rfl) ?_; generalize hK : VS _ _ _ = KK; simp (maxSteps := 1000000) [hF]; (try subst hK); try (refine VS.keep [0] ?_; generalize hK : VS _ _ _ = KK; simp; (try subst hK)))
    | (refine VS.keepAt 1 [0] ?_; generalize hK : VS _ _ _ = KK; (try simp); (try subst hK); refine VS.region tabOk (id := 1) [] (by kernel_rfl) ?_; generalize hK : VS _ _ _ = KK; simp (maxSteps := 1000000) [hF]; (try subst hK); try (refine VS.keep [0, 7] ?_; generalize hK : VS _ _ _ = KK; simp; (try subst hK)))
  refine (len_ok L hl).call [(0, [])] (by simp) (by simp (maxSteps := 1000000) [hF, dL, hz]) (by simp (maxSteps := 1000000) [hF, dL, hz]) (by simp (maxSteps := 1000000) [hF, dL, hz]) (by simp) ?_
  rintro av X κ ⟨rfl, rfl, rfl⟩
  generalize hK : VS _ _ _ = KK; simp (maxSteps := 1000000) [hF, dL, hz]; (try subst hK)
  repeat first
    | refine VS.seq ?_
    | refine VS.skip ?_
    | (refine VS.keepAt 3 [0] ?_; generalize hK : VS _ _ _ = KK; (try simp); (try subst hK); refine VS.region tabOk (id := 3) [] (by kernel_rfl) ?_; generalize hK : VS _ _ _ = KK; simp (maxSteps := 1000000) [hF, dL]; (try subst hK); try (refine VS.keep [3] ?_; generalize hK : VS _ _ _ = KK; simp; (try subst hK)))
    | (refine VS.cond ?_; generalize hK1 : VS _ _ _ = KK1; generalize hK2 : VS _ _ _ = KK2; simp (maxSteps := 1000000) [hF, dL]; (try subst hK1); (try subst hK2))
  refine (clone_t L hl hp).call [(0, [])] (by simp) (by simp (maxSteps := 1000000) [hF, dL]) (by simp (maxSteps := 1000000) [hF, dL]) (by simp (maxSteps := 1000000) [hF, dL]) (by simp) ?_
  rintro av X κ ⟨rfl, rfl, rfl⟩
  generalize hK : VS _ _ _ = KK; simp (maxSteps := 1000000) [hF, dL]; (try subst hK)
  repeat first
    | refine VS.seq ?_
    | refine VS.block ?_
    | (refine VS.keepAt 4 [3] ?_; generalize hK : VS _ _ _ = KK; (try simp); (try subst hK); refine VS.region tabOk (id := 4) [] (by kernel_rfl) ?_; generalize hK : VS _ _ _ = KK; simp (maxSteps := 1000000) [hF]; (try subst hK); try (refine VS.keep [3, 19, 20] ?_; generalize hK : VS _ _ _ = KK; simp; (try subst hK)))
  refine VS.pick [3, 19, 20] [0, 2] (by simp [hF]) ?_
  generalize hK : VS _ _ _ = KK; simp [hF]; (try subst hK)
  refine VS.rounds (fun m st => ∃ (i : Nat), i + m = L.length ∧ st = ⟨[(3, .ptr 1 [.d]), (19, avInt L.length), (20, avInt i)], [dL L, dL L], [], []⟩) ⟨L.length, 0, by omega, by simp [dL]⟩ ?_
  rintro m st ⟨i, hi, rfl⟩
  repeat first
    | refine VS.seq ?_
    | (refine VS.keepAt 5 [3, 19, 20] ?_; generalize hK : VS _ _ _ = KK; (try simp); (try subst hK); refine VS.region tabOk (id := 5) [] (by kernel_rfl) ?_; generalize hK : VS _ _ _ = KK; simp (maxSteps := 1000000) [hF]; (try subst hK); try (refine VS.keep [3, 19, 20, 21] ?_; generalize hK : VS _ _ _ = KK; simp; (try subst hK)))
    | (refine VS.cond ?_; generalize hK1 : VS _ _ _ = KK1; generalize hK2 : VS _ _ _ = KK2; simp (maxSteps := 1000000) [hF]; (try subst hK1); (try subst hK2))
  refine ⟨fun hlt => ?_, fun hge => ?_⟩
  · have hil : i < L.length := by omega
    have hn := dThs_nth hil
    have hset := dThs_same hil
    obtain ⟨B, hb1, hb2⟩ : ∃ B : Nat, L[i].bef.length ≤ B ∧ L[i].ins.length ≤ B ∧ B ≤ 1000 := by
      obtain ⟨r, B⟩ := h.wf.base
      have hx : L[i]? = some L[i] := List.getElem?_eq_getElem hil
      have h1 := nodup_bound L.length (parents L[i]) (B.np _ _ hx) (fun u hu => by have := B.edge _ _ hx u (.inr hu); omega)
      have h2 := nodup_bound L.length L[i].bef (B.nb _ _ hx) (fun u hu => by have := B.edge _ _ hx u (.inl hu); omega)
      have h3 : L[i].ins.length ≤ (parents L[i]).length := by simp [parents]
      exact ⟨1000, by omega, by omega, by omega⟩
    repeat first
      | refine VS.seq ?_
      | refine VS.skip ?_
      | refine VS.block ?_
      | (refine VS.keepAt 6 [3, 19, 20] ?_; generalize hK : VS _ _ _ = KK; (try simp); (try subst hK); refine VS.region tabOk (id := 6) [] (by kernel_rfl) ?_; generalize hK : VS _ _ _ = KK; simp (maxSteps := 1000000) [hF, dL, hn, hil]; (try subst hK); try (refine VS.keep [3, 4, 19, 20] ?_; generalize hK : VS _ _ _ = KK; simp; (try subst hK)))
      | (refine VS.keepAt 7 [3, 4, 19, 20] ?_; generalize hK : VS _ _ _ = KK; (try simp); (try subst hK); refine VS.drawnE tabOk mixedOk (id := 7) 8192 [] [⟨0, 8, 8388608, 5⟩, ⟨1, 8388608, 16777216, 5⟩, ⟨2, 16777216, 33554432, 5⟩, ⟨4, 33554432, 67108864, 6⟩, ⟨0, 16, 134217728, 5⟩, ⟨0, 8, 268435456, 5⟩, ⟨32, 268435456, 536870912, 5⟩, ⟨64, 536870912, 1073741824, 5⟩, ⟨128, 1073741824, 2147483648, 6⟩, ⟨0, 16, 4294967296, 5⟩, ⟨768, 6442450944, 8589934592, 5⟩, ⟨1024, 8589934592, 17179869184, 5⟩, ⟨2048, 17179869184, 34359738368, 6⟩, ⟨4096, 34359738368, 68719476736, 0⟩, ⟨16383, 201326592, 137438953472, 5⟩, ⟨32767, 137438953472, 274877906944, 5⟩, ⟨49151, 343597383680, 0, 0⟩] (.take 0 (.take 1 (.take 2 (.take 3 (.take 4 (.take 5 (.take 6 (.take 7 (.take 8 (.take 9 (.take 10 (.take 11 (.take 12 (.fork (.alt 13 (.take 14 (.take 15 (.fork (.alt 16 (.done) (.nil))))) (.nil)))))))))))))))) (.run [0, 1, 2, 3, 4, 5, 6, 7, 8, 9, 10, 11, 12] (.chk 13 (.run [13, 14, 15, 16] (.done)))) (by kernel_rfl) (by kernel_rfl) (by kernel_rfl) ?_; generalize hK : VS _ _ _ = KK; simp only [opsVc_run, opsVc_both, opsVc_chk, opsVc_done, opsVc_yes, pick_cons, pick_nil, List.getElem?_cons_zero, List.getElem?_cons_succ]; simp (maxSteps := 1000000) [hF, dL, hn, hil]; (try subst hK); try (refine VS.keep [3, 4, 19, 20] ?_; generalize hK : VS _ _ _ = KK; simp; (try subst hK)))
    refine (cloneI_ok false L[i].bef (by omega)).call [] (by simp) (by simp (maxSteps := 1000000) [hF, dL, hn, hil, hset]) (by simp (maxSteps := 1000000) [hF, dL, hn, hil, hset]) (by simp (maxSteps := 1000000) [hF, dL, hn, hil, hset]) (by simp) ?_
    rintro av X κ ⟨rfl, rfl, rfl⟩
    generalize hK : VS _ _ _ = KK; simp (maxSteps := 1000000) [hF, dL, hn, hil, hset]; (try subst hK)
    repeat first
      | (refine VS.keepAt 8 [3, 4, 19, 20] ?_; generalize hK : VS _ _ _ = KK; (try simp); (try subst hK); refine VS.drawnE tabOk mixedOk (id := 8) 8192 [] [⟨0, 8, 549755813888, 5⟩, ⟨1, 549755813888, 1099511627776, 5⟩, ⟨2, 1099511627776, 2199023255552, 5⟩, ⟨4, 2199023255552, 4398046511104, 6⟩, ⟨0, 16, 8796093022208, 5⟩, ⟨0, 8, 17592186044416, 5⟩, ⟨32, 17592186044416, 35184372088832, 5⟩, ⟨64, 35184372088832, 70368744177664, 5⟩, ⟨128, 70368744177664, 140737488355328, 6⟩, ⟨0, 16, 281474976710656, 5⟩, ⟨768, 422212465065984, 562949953421312, 5⟩, ⟨1024, 562949953421312, 1125899906842624, 5⟩, ⟨2048, 1125899906842624, 2251799813685248, 6⟩, ⟨4096, 2251799813685248, 4503599627370496, 0⟩, ⟨16383, 13194139533312, 9007199254740992, 5⟩, ⟨32767, 9007199254740992, 18014398509481984, 5⟩, ⟨49151, 22517998136852480, 0, 0⟩] (.take 0 (.take 1 (.take 2 (.take 3 (.take 4 (.take 5 (.take 6 (.take 7 (.take 8 (.take 9 (.take 10 (.take 11 (.take 12 (.fork (.alt 13 (.take 14 (.take 15 (.fork (.alt 16 (.done) (.nil))))) (.nil)))))))))))))))) (.run [0, 1, 2, 3, 4, 5, 6, 7, 8, 9, 10, 11, 12] (.chk 13 (.run [13, 14, 15, 16] (.done)))) (by kernel_rfl) (by kernel_rfl) (by kernel_rfl) ?_; generalize hK : VS _ _ _ = KK; simp only [opsVc_run, opsVc_both, opsVc_chk, opsVc_done, opsVc_yes, pick_cons, pick_nil, List.getElem?_cons_zero, List.getElem?_cons_succ]; simp (maxSteps := 1000000) [hF, dL, hn, hil, hset]; (try subst hK); try (refine VS.keep [3, 19, 20] ?_; generalize hK : VS _ _ _ = KK; simp; (try subst hK)))
    refine (cloneI_ok false L[i].ins (by omega)).call [] (by simp) (by simp (maxSteps := 1000000) [hF, dL, hn, hil, hset]) (by simp (maxSteps := 1000000) [hF, dL, hn, hil, hset]) (by simp (maxSteps := 1000000) [hF, dL, hn, hil, hset]) (by simp) ?_
    rintro av X κ ⟨rfl, rfl, rfl⟩
    generalize hK : VS _ _ _ = KK; simp (maxSteps := 1000000) [hF, dL, hn, hil, hset]; (try subst hK)
    repeat first
      | refine VS.nil ?_
      | refine blockN_normal ?_
      | refine loopN_normal ?_
      | (refine VS.keepAt 9 [3, 19, 20] ?_; generalize hK : VS _ _ _ = KK; (try simp); (try subst hK); refine VS.region tabOk (id := 9) [] (by kernel_rfl) ?_; generalize hK : VS _ _ _ = KK; simp (maxSteps := 1000000) [hF, hset]; (try subst hK); try (refine VS.keep [3, 19, 20] ?_; generalize hK : VS _ _ _ = KK; simp; (try subst hK)))
    refine nextK.of [3, 19, 20] [0, 1] (m - 1) (by omega) (by simp [hF]) ?_
    refine ⟨i + 1, by omega, ?_⟩
    simp [dL]
    exact IntWalk.i64_in _ (by omega)
  · repeat first
      | refine VS.seq ?_
      | refine VS.exit ?_
      | (refine VS.keepAt 10 [3] ?_; generalize hK : VS _ _ _ = KK; (try simp); (try subst hK); refine VS.region tabOk (id := 10) [] (by kernel_rfl) ?_; generalize hK : VS _ _ _ = KK; simp (maxSteps := 1000000) [hF]; (try subst hK); try (refine VS.keep [2] ?_; generalize hK : VS _ _ _ = KK; simp; (try subst hK)))
    try refine VS.ret ?_
    repeat first | refine blockN_ret ?_ | refine loopN_ret ?_
    refine endK.of [2] [0, 1] [] (by simp [hF]) (by simp [covers, mpre]) ?_
    simp [hF, retK, dL]
end Go.Proofs.Ytahgopdamgagkaa

/- LineageCopies: a copy goes on alike, and neither is changed by the other one's deeds. -/
namespace Go.Proofs.Ytahgopdamgagkaa
set_option linter.all false
open Go.Vc Go.Proofs
set_option linter.unusedSimpArgs false
set_option linter.unusedVariables false
set_option maxRecDepth 100000
set_option maxHeartbeats 4000000
attribute [local irreducible] CallW EqK

/- cabochon/cabochonlaw18.LineageCopies -/
theorem copies_ok (ex ex2 : Bool) (l l2 : List Deed) : Meets Try.prog 6 [] (.cons (.imm 3 (dDeeds l) ex) (.cons (.imm 3 (dDeeds l2) ex2) .nil)) fun av X κ => av = .val (.bool true) := by
  obtain ⟨hok, hpos⟩ := playedOf_OK l
  have hl := hok.len
  refine Meets.of_vs tabOk Try.func6 (body := ?_) ?_ (by kernel_rfl) Try.ntmps6 (rs := [.tmp 4]) (by kernel_rfl) rfl (by simp [AV.len]) (by simp only [envOf]; exact rfl) ?_
  rotate_left
  · rfl
  intro w0 I0 F0 hF
  by_cases hm : 40 < l2.length
  · have hm' : (40 : Int) < l2.length := by omega
    repeat first
      | refine VS.seq ?_
      | (refine VS.keepAt 0 [0, 1] ?_; generalize hK : VS _ _ _ = KK; (try simp); (try subst hK); refine VS.region tabOk (id := 0) [] (by kernel_rfl) ?_; generalize hK : VS _ _ _ = KK; simp (maxSteps := 1000000) [hF, hm']; (try subst hK); try (refine VS.keep [0, 1] ?_; generalize hK : VS _ _ _ = KK; simp; (try subst hK)))
      | (refine VS.keepAt 1 [0, 1] ?_; generalize hK : VS _ _ _ = KK; (try simp); (try subst hK); refine VS.region tabOk (id := 1) [] (by kernel_rfl) ?_; generalize hK : VS _ _ _ = KK; simp (maxSteps := 1000000) [hF, hm']; (try subst hK); try (refine VS.keep [0, 1, 21] ?_; generalize hK : VS _ _ _ = KK; simp; (try subst hK)))
      | (refine VS.keepAt 2 [] ?_; generalize hK : VS _ _ _ = KK; (try simp); (try subst hK); refine VS.region tabOk (id := 2) [] (by kernel_rfl) ?_; generalize hK : VS _ _ _ = KK; simp (maxSteps := 1000000) [hF, hm']; (try subst hK); try (refine VS.keep [4] ?_; generalize hK : VS _ _ _ = KK; simp; (try subst hK)))
      | (refine VS.cond ?_; generalize hK1 : VS _ _ _ = KK1; generalize hK2 : VS _ _ _ = KK2; simp (maxSteps := 1000000) [hF, hm']; (try subst hK1); (try subst hK2))
    refine (sane_ok).call [] (by simp) (by simp (maxSteps := 1000000) [hF]) (by simp (maxSteps := 1000000) [hF]) (by simp (maxSteps := 1000000) [hF]) (by simp) ?_
    rintro av X κ ⟨rfl, rfl, rfl⟩
    generalize hK : VS _ _ _ = KK; simp (maxSteps := 1000000) [hF]; (try subst hK)
    try refine VS.ret ?_
    repeat first | refine blockN_ret ?_ | refine loopN_ret ?_
    refine endK.of [4] [] [] (by simp [hF]) (by simp [covers, mpre]) ?_
    simp [hF, retK]
  · have hm' : ¬ (40 : Int) < l2.length := by omega
    repeat first
      | refine VS.seq ?_
      | refine VS.skip ?_
      | (refine VS.keepAt 0 [0, 1] ?_; generalize hK : VS _ _ _ = KK; (try simp); (try subst hK); refine VS.region tabOk (id := 0) [] (by kernel_rfl) ?_; generalize hK : VS _ _ _ = KK; simp (maxSteps := 1000000) [hF, hm']; (try subst hK); try (refine VS.keep [0, 1] ?_; generalize hK : VS _ _ _ = KK; simp; (try subst hK)))
      | (refine VS.keepAt 1 [0, 1] ?_; generalize hK : VS _ _ _ = KK; (try simp); (try subst hK); refine VS.region tabOk (id := 1) [] (by kernel_rfl) ?_; generalize hK : VS _ _ _ = KK; simp (maxSteps := 1000000) [hF, hm']; (try subst hK); try (refine VS.keep [0, 1, 21] ?_; generalize hK : VS _ _ _ = KK; simp; (try subst hK)))
      | (refine VS.keepAt 3 [0, 1] ?_; generalize hK : VS _ _ _ = KK; (try simp); (try subst hK); refine VS.region tabOk (id := 3) [] (by kernel_rfl) ?_; generalize hK : VS _ _ _ = KK; simp (maxSteps := 1000000) [hF, hm']; (try subst hK); try (refine VS.keep [0, 1, 5] ?_; generalize hK : VS _ _ _ = KK; simp; (try subst hK)))
      | (refine VS.cond ?_; generalize hK1 : VS _ _ _ = KK1; generalize hK2 : VS _ _ _ = KK2; simp (maxSteps := 1000000) [hF, hm']; (try subst hK1); (try subst hK2))
    refine (played_ok ex l).call [] (by simp) (by simp (maxSteps := 1000000) [hF]) (by simp (maxSteps := 1000000) [hF]) (by simp (maxSteps := 1000000) [hF]) (by simp) ?_
    rintro av X κ ⟨rfl, rfl, rfl⟩
    generalize hK : VS _ _ _ = KK; simp (maxSteps := 1000000) [hF]; (try subst hK)
    generalize hL : playedOf l = L at *
    repeat first
      | refine VS.seq ?_
      | (refine VS.keepAt 4 [0, 1, 5] ?_; generalize hK : VS _ _ _ = KK; (try simp); (try subst hK); refine VS.region tabOk (id := 4) [] (by kernel_rfl) ?_; generalize hK : VS _ _ _ = KK; simp (maxSteps := 1000000) [hF]; (try subst hK); try (refine VS.keep [0, 1, 5, 6] ?_; generalize hK : VS _ _ _ = KK; simp; (try subst hK)))
    refine (copy_ok hok hpos).call [(0, [])] (by simp) (by simp (maxSteps := 1000000) [hF, dL]) (by simp (maxSteps := 1000000) [hF, dL]) (by simp (maxSteps := 1000000) [hF, dL]) (by simp) ?_
    rintro av X κ ⟨rfl, rfl, rfl⟩
    generalize hK : VS _ _ _ = KK; simp (maxSteps := 1000000) [hF, dL]; (try subst hK)
    repeat first
      | refine VS.seq ?_
      | (refine VS.keepAt 5 [0, 1, 5, 6] ?_; generalize hK : VS _ _ _ = KK; (try simp); (try subst hK); refine VS.region tabOk (id := 5) [] (by kernel_rfl) ?_; generalize hK : VS _ _ _ = KK; simp (maxSteps := 1000000) [hF]; (try subst hK); try (refine VS.keep [0, 1, 5, 6, 7] ?_; generalize hK : VS _ _ _ = KK; simp; (try subst hK)))
    refine (played_ok ex l).call [] (by simp) (by simp (maxSteps := 1000000) [hF, dL, hL]) (by simp (maxSteps := 1000000) [hF, dL, hL]) (by simp (maxSteps := 1000000) [hF, dL, hL]) (by simp) ?_
    rintro av X κ ⟨rfl, rfl, rfl⟩
    generalize hK : VS _ _ _ = KK; simp (maxSteps := 1000000) [hF, dL, hL]; (try subst hK)
    repeat first
      | refine VS.seq ?_
      | (refine VS.keepAt 6 [0, 1, 5, 6, 7] ?_; generalize hK : VS _ _ _ = KK; (try simp); (try subst hK); refine VS.region tabOk (id := 6) [(2, 31)] (by kernel_rfl) ?_; generalize hK : VS _ _ _ = KK; simp (maxSteps := 1000000) [hF]; (try subst hK); try (refine VS.keep [0, 1, 5, 6, 7, 37] ?_; generalize hK : VS _ _ _ = KK; simp; (try subst hK)))
    refine (len_ok L hl).call [(1, [])] (by simp) (by simp (maxSteps := 1000000) [hF, dL]) (by simp (maxSteps := 1000000) [hF, dL]) (by simp (maxSteps := 1000000) [hF, dL]) (by simp) ?_
    rintro av X κ ⟨rfl, rfl, rfl⟩
    generalize hK : VS _ _ _ = KK; simp (maxSteps := 1000000) [hF, dL]; (try subst hK)
    refine (len_ok L hl).call [(0, [])] (by simp) (by simp (maxSteps := 1000000) [hF, dL]) (by simp (maxSteps := 1000000) [hF, dL]) (by simp (maxSteps := 1000000) [hF, dL]) (by simp) ?_
    rintro av X κ ⟨rfl, rfl, rfl⟩
    generalize hK : VS _ _ _ = KK; simp (maxSteps := 1000000) [hF, dL]; (try subst hK)
    repeat first
      | refine VS.seq ?_
      | refine VS.skip ?_
      | refine VS.block ?_
      | (refine VS.keepAt 8 [0, 1, 5, 6, 7] ?_; generalize hK : VS _ _ _ = KK; (try simp); (try subst hK); refine VS.region tabOk (id := 8) [] (by kernel_rfl) ?_; generalize hK : VS _ _ _ = KK; simp (maxSteps := 1000000) [hF]; (try subst hK); try (refine VS.keep [0, 1, 5, 6, 7, 8] ?_; generalize hK : VS _ _ _ = KK; simp; (try subst hK)))
      | (refine VS.cond ?_; generalize hK1 : VS _ _ _ = KK1; generalize hK2 : VS _ _ _ = KK2; simp (maxSteps := 1000000) [hF]; (try subst hK1); (try subst hK2))
    refine VS.pick [0, 1, 5, 6, 7, 8] [0, 1, 2] (by simp [hF]) ?_
    generalize hK : VS _ _ _ = KK; simp [hF]; (try subst hK)
    refine VS.rounds (fun n st => ∃ (i : Nat), i + n = l2.length ∧ st = ⟨[(0, .imm 3 (dDeeds l) ex), (1, .imm 3 (dDeeds l2) ex2), (5, .ptr 0 [.d]), (6, .ptr 1 [.d]), (7, .ptr 2 [.d]), (8, avInt i)], [dL L, dL (runOf L (l2.take i)), dL (runOf L (l2.take i))], [], []⟩) ⟨l2.length, 0, by omega, by simp [dL, runOf]⟩ ?_
    rintro n st ⟨i, hi, rfl⟩
    obtain ⟨hok2, hpos2⟩ := runOf_OK hok hpos (l2.take i)
    by_cases hlt : i < l2.length
    · have b1 : (i : Int) < l2.length := by omega
      have hn := dDeeds_nth hlt
      have hnext := runOf_take (L := L) hlt
      repeat first
        | refine VS.seq ?_
        | refine VS.skip ?_
        | refine VS.block ?_
        | (refine VS.keepAt 9 [0, 1, 5, 6, 7, 8] ?_; generalize hK : VS _ _ _ = KK; (try simp); (try subst hK); refine VS.region tabOk (id := 9) [] (by kernel_rfl) ?_; generalize hK : VS _ _ _ = KK; simp (maxSteps := 1000000) [hF, b1, hn, hlt]; (try subst hK); try (refine VS.keep [0, 1, 5, 6, 7, 8, 41] ?_; generalize hK : VS _ _ _ = KK; simp; (try subst hK)))
        | (refine VS.keepAt 11 [0, 1, 5, 6, 7, 8] ?_; generalize hK : VS _ _ _ = KK; (try simp); (try subst hK); refine VS.region tabOk (id := 11) [] (by kernel_rfl) ?_; generalize hK : VS _ _ _ = KK; simp (maxSteps := 1000000) [hF, b1, hn, hlt]; (try subst hK); try (refine VS.keep [0, 1, 5, 6, 7, 8, 9, 10] ?_; generalize hK : VS _ _ _ = KK; simp; (try subst hK)))
        | (refine VS.cond ?_; generalize hK1 : VS _ _ _ = KK1; generalize hK2 : VS _ _ _ = KK2; simp (maxSteps := 1000000) [hF, b1, hn, hlt]; (try subst hK1); (try subst hK2))
      refine (small_ok l2[i]).call [] (by simp) (by simp (maxSteps := 1000000) [hF, avDeed]) (by simp (maxSteps := 1000000) [hF, avDeed]) (by simp (maxSteps := 1000000) [hF, avDeed]) (by simp) ?_
      rintro av X κ ⟨rfl, rfl, rfl⟩
      generalize hK : VS _ _ _ = KK; simp (maxSteps := 1000000) [hF, avDeed]; (try subst hK)
      refine (do_ok hok2 (smallOf l2[i])).call [(1, [])] (by simp) (by simp (maxSteps := 1000000) [hF, dL, avDeed]) (by simp (maxSteps := 1000000) [hF, dL, avDeed]) (by simp (maxSteps := 1000000) [hF, dL, avDeed]) (by simp) ?_
      rintro av X κ ⟨rfl, rfl, rfl⟩
      generalize hK : VS _ _ _ = KK; simp (maxSteps := 1000000) [hF, dL, avDeed]; (try subst hK)
      repeat first
        | refine VS.seq ?_
        | (refine VS.keepAt 12 [0, 1, 5, 6, 7, 8, 9, 10] ?_; generalize hK : VS _ _ _ = KK; (try simp); (try subst hK); refine VS.region tabOk (id := 12) [] (by kernel_rfl) ?_; generalize hK : VS _ _ _ = KK; simp (maxSteps := 1000000) [hF, b1, hn, hlt]; (try subst hK); try (refine VS.keep [0, 1, 5, 6, 7, 8, 9, 10, 11, 12] ?_; generalize hK : VS _ _ _ = KK; simp; (try subst hK)))
      refine (small_ok l2[i]).call [] (by simp) (by simp (maxSteps := 1000000) [hF, avDeed]) (by simp (maxSteps := 1000000) [hF, avDeed]) (by simp (maxSteps := 1000000) [hF, avDeed]) (by simp) ?_
      rintro av X κ ⟨rfl, rfl, rfl⟩
      generalize hK : VS _ _ _ = KK; simp (maxSteps := 1000000) [hF, avDeed]; (try subst hK)
      refine (do_ok hok2 (smallOf l2[i])).call [(2, [])] (by simp) (by simp (maxSteps := 1000000) [hF, dL, avDeed]) (by simp (maxSteps := 1000000) [hF, dL, avDeed]) (by simp (maxSteps := 1000000) [hF, dL, avDeed]) (by simp) ?_
      rintro av X κ ⟨rfl, rfl, rfl⟩
      generalize hK : VS _ _ _ = KK; simp (maxSteps := 1000000) [hF, dL, avDeed]; (try subst hK)
      repeat first
        | refine VS.seq ?_
        | refine VS.skip ?_
        | refine VS.nil ?_
        | refine blockN_normal ?_
        | refine loopN_normal ?_
        | (refine VS.keepAt 10 [0, 1, 5, 6, 7, 8] ?_; generalize hK : VS _ _ _ = KK; (try simp); (try subst hK); refine VS.region tabOk (id := 10) [] (by kernel_rfl) ?_; generalize hK : VS _ _ _ = KK; simp (maxSteps := 1000000) [hF]; (try subst hK); try (refine VS.keep [0, 1, 5, 6, 7, 8] ?_; generalize hK : VS _ _ _ = KK; simp; (try subst hK)))
        | (refine VS.keepAt 13 [0, 1, 5, 6, 7, 8, 9, 10, 11, 12] ?_; generalize hK : VS _ _ _ = KK; (try simp); (try subst hK); refine VS.region tabOk (id := 13) [(3, 67)] (by kernel_rfl) ?_; generalize hK : VS _ _ _ = KK; simp (maxSteps := 1000000) [hF]; (try subst hK); try (refine VS.keep [0, 1, 5, 6, 7, 8, 71] ?_; generalize hK : VS _ _ _ = KK; simp; (try subst hK)))
        | (refine VS.cond ?_; generalize hK1 : VS _ _ _ = KK1; generalize hK2 : VS _ _ _ = KK2; simp (maxSteps := 1000000) [hF]; (try subst hK1); (try subst hK2))
      refine nextK.of [0, 1, 5, 6, 7, 8] [0, 1, 2] (n - 1) (by omega) (by simp [hF]) ?_
      refine ⟨i + 1, by omega, ?_⟩
      simp [hnext, dL]
      exact IntWalk.i64_in _ (by omega)
    · have b1 : ¬ (i : Int) < l2.length := by omega
      repeat first
        | refine VS.seq ?_
        | refine VS.exit ?_
        | (refine VS.keepAt 9 [0, 1, 5, 6, 7, 8] ?_; generalize hK : VS _ _ _ = KK; (try simp); (try subst hK); refine VS.region tabOk (id := 9) [] (by kernel_rfl) ?_; generalize hK : VS _ _ _ = KK; simp (maxSteps := 1000000) [hF, b1]; (try subst hK); try (refine VS.keep [0, 1, 5, 6, 7, 8, 41] ?_; generalize hK : VS _ _ _ = KK; simp; (try subst hK)))
        | (refine VS.keepAt 15 [0, 5] ?_; generalize hK : VS _ _ _ = KK; (try simp); (try subst hK); refine VS.region tabOk (id := 15) [] (by kernel_rfl) ?_; generalize hK : VS _ _ _ = KK; simp (maxSteps := 1000000) [hF, b1]; (try subst hK); try (refine VS.keep [5, 13] ?_; generalize hK : VS _ _ _ = KK; simp; (try subst hK)))
        | (refine VS.cond ?_; generalize hK1 : VS _ _ _ = KK1; generalize hK2 : VS _ _ _ = KK2; simp (maxSteps := 1000000) [hF, b1]; (try subst hK1); (try subst hK2))
      refine (played_ok ex l).call [] (by simp) (by simp (maxSteps := 1000000) [hF, dL, hL]) (by simp (maxSteps := 1000000) [hF, dL, hL]) (by simp (maxSteps := 1000000) [hF, dL, hL]) (by simp) ?_
      rintro av X κ ⟨rfl, rfl, rfl⟩
      generalize hK : VS _ _ _ = KK; simp (maxSteps := 1000000) [hF, dL, hL]; (try subst hK)
      repeat first
        | refine VS.seq ?_
        | refine VS.block ?_
        | (refine VS.keepAt 16 [5, 13] ?_; generalize hK : VS _ _ _ = KK; (try simp); (try subst hK); refine VS.region tabOk (id := 16) [] (by kernel_rfl) ?_; generalize hK : VS _ _ _ = KK; simp (maxSteps := 1000000) [hF]; (try subst hK); try (refine VS.keep [5, 13, 14] ?_; generalize hK : VS _ _ _ = KK; simp; (try subst hK)))
      refine VS.pick [5, 13, 14] [0, 3] (by simp [hF]) ?_
      generalize hK : VS _ _ _ = KK; simp [hF]; (try subst hK)
      refine VS.rounds (fun n st => ∃ (c : Nat), c + n = L.length ∧ st = ⟨[(5, .ptr 0 [.d]), (13, .ptr 1 [.d]), (14, avInt c)], [dL L, dL L], [], []⟩) ⟨L.length, 0, by omega, by simp [dL]⟩ ?_
      rintro n st ⟨c, hc, rfl⟩
      repeat first
        | refine VS.seq ?_
        | (refine VS.keepAt 17 [5, 13, 14] ?_; generalize hK : VS _ _ _ = KK; (try simp); (try subst hK); refine VS.region tabOk (id := 17) [] (by kernel_rfl) ?_; generalize hK : VS _ _ _ = KK; simp (maxSteps := 1000000) [hF]; (try subst hK); try (refine VS.keep [5, 13, 14, 77] ?_; generalize hK : VS _ _ _ = KK; simp; (try subst hK)))
      refine (len_ok L hl).call [(0, [])] (by simp) (by simp (maxSteps := 1000000) [hF, dL]) (by simp (maxSteps := 1000000) [hF, dL]) (by simp (maxSteps := 1000000) [hF, dL]) (by simp) ?_
      rintro av X κ ⟨rfl, rfl, rfl⟩
      generalize hK : VS _ _ _ = KK; simp (maxSteps := 1000000) [hF, dL]; (try subst hK)
      repeat first
        | (refine VS.cond ?_; generalize hK1 : VS _ _ _ = KK1; generalize hK2 : VS _ _ _ = KK2; simp (maxSteps := 1000000) [hF]; (try subst hK1); (try subst hK2))
      refine ⟨fun hlt2 => ?_, fun hge2 => ?_⟩
      · have hcl : c < L.length := by omega
        have hol : (ordL L c).length ≤ 1000 := hok.wf.base.elim fun _ B => ord_len B hcl (hok.wf.ord hcl)
        repeat first
          | refine VS.seq ?_
          | refine VS.skip ?_
          | refine VS.block ?_
          | (refine VS.keepAt 19 [5, 13, 14] ?_; generalize hK : VS _ _ _ = KK; (try simp); (try subst hK); refine VS.region tabOk (id := 19) [] (by kernel_rfl) ?_; generalize hK : VS _ _ _ = KK; simp (maxSteps := 1000000) [hF]; (try subst hK); try (refine VS.keep [5, 13, 14, 15] ?_; generalize hK : VS _ _ _ = KK; simp; (try subst hK)))
        refine (Order_yes hok.wf c hcl).call [(0, [])] (by simp) (by simp (maxSteps := 1000000) [hF, dL]) (by simp (maxSteps := 1000000) [hF, dL]) (by simp (maxSteps := 1000000) [hF, dL]) (by simp) ?_
        rintro av X κ ⟨rfl, rfl, rfl⟩
        generalize hK : VS _ _ _ = KK; simp (maxSteps := 1000000) [hF, dL]; (try subst hK)
        repeat first
          | refine VS.seq ?_
          | (refine VS.keepAt 20 [5, 13, 14, 15] ?_; generalize hK : VS _ _ _ = KK; (try simp); (try subst hK); refine VS.region tabOk (id := 20) [] (by kernel_rfl) ?_; generalize hK : VS _ _ _ = KK; simp (maxSteps := 1000000) [hF]; (try subst hK); try (refine VS.keep [5, 13, 14, 15, 17] ?_; generalize hK : VS _ _ _ = KK; simp; (try subst hK)))
        refine (Order_yes hok.wf c hcl).call [(1, [])] (by simp) (by simp (maxSteps := 1000000) [hF, dL]) (by simp (maxSteps := 1000000) [hF, dL]) (by simp (maxSteps := 1000000) [hF, dL]) (by simp) ?_
        rintro av X κ ⟨rfl, rfl, rfl⟩
        generalize hK : VS _ _ _ = KK; simp (maxSteps := 1000000) [hF, dL]; (try subst hK)
        repeat first
          | refine VS.seq ?_
          | (refine VS.keepAt 21 [5, 13, 14, 15, 17] ?_; generalize hK : VS _ _ _ = KK; (try simp); (try subst hK); refine VS.region tabOk (id := 21) [] (by kernel_rfl) ?_; generalize hK : VS _ _ _ = KK; simp (maxSteps := 1000000) [hF]; (try subst hK); try (refine VS.keep [5, 13, 14, 95] ?_; generalize hK : VS _ _ _ = KK; simp; (try subst hK)))
        refine (same_ii false false (ordL L c) (ordL L c) (by omega)).call [] (by simp) (by simp (maxSteps := 1000000) [hF]) (by simp (maxSteps := 1000000) [hF]) (by simp (maxSteps := 1000000) [hF]) (by simp) ?_
        rintro av X κ ⟨rfl, rfl, rfl⟩
        generalize hK : VS _ _ _ = KK; simp (maxSteps := 1000000) [hF]; (try subst hK)
        repeat first
          | refine VS.skip ?_
          | refine VS.nil ?_
          | refine blockN_normal ?_
          | refine loopN_normal ?_
          | (refine VS.keepAt 18 [5, 13, 14] ?_; generalize hK : VS _ _ _ = KK; (try simp); (try subst hK); refine VS.region tabOk (id := 18) [] (by kernel_rfl) ?_; generalize hK : VS _ _ _ = KK; simp (maxSteps := 1000000) [hF]; (try subst hK); try (refine VS.keep [5, 13, 14] ?_; generalize hK : VS _ _ _ = KK; simp; (try subst hK)))
          | (refine VS.cond ?_; generalize hK1 : VS _ _ _ = KK1; generalize hK2 : VS _ _ _ = KK2; simp (maxSteps := 1000000) [hF]; (try subst hK1); (try subst hK2))
        refine nextK.of [5, 13, 14] [0, 1] (n - 1) (by omega) (by simp [hF]) ?_
        refine ⟨c + 1, by omega, ?_⟩
        simp [dL]
        exact IntWalk.i64_in _ (by omega)
      · repeat first
          | refine VS.seq ?_
          | refine VS.exit ?_
          | (refine VS.keepAt 23 [5, 13] ?_; generalize hK : VS _ _ _ = KK; (try simp); (try subst hK); refine VS.region tabOk (id := 23) [(5, 101)] (by kernel_rfl) ?_; generalize hK : VS _ _ _ = KK; simp (maxSteps := 1000000) [hF]; (try subst hK); try (refine VS.keep [4] ?_; generalize hK : VS _ _ _ = KK; simp; (try subst hK)))
        refine (len_ok L hl).call [(0, [])] (by simp) (by simp (maxSteps := 1000000) [hF, dL]) (by simp (maxSteps := 1000000) [hF, dL]) (by simp (maxSteps := 1000000) [hF, dL]) (by simp) ?_
        rintro av X κ ⟨rfl, rfl, rfl⟩
        generalize hK : VS _ _ _ = KK; simp (maxSteps := 1000000) [hF, dL]; (try subst hK)
        refine (len_ok L hl).call [(1, [])] (by simp) (by simp (maxSteps := 1000000) [hF, dL]) (by simp (maxSteps := 1000000) [hF, dL]) (by simp (maxSteps := 1000000) [hF, dL]) (by simp) ?_
        rintro av X κ ⟨rfl, rfl, rfl⟩
        generalize hK : VS _ _ _ = KK; simp (maxSteps := 1000000) [hF, dL]; (try subst hK)
        refine (sane_ok).call [] (by simp) (by simp (maxSteps := 1000000) [hF]) (by simp (maxSteps := 1000000) [hF]) (by simp (maxSteps := 1000000) [hF]) (by simp) ?_
        rintro av X κ ⟨rfl, rfl, rfl⟩
        generalize hK : VS _ _ _ = KK; simp (maxSteps := 1000000) [hF]; (try subst hK)
        try refine VS.ret ?_
        repeat first | refine blockN_ret ?_ | refine loopN_ret ?_
        refine endK.of [4] [] [] (by simp [hF]) (by simp [covers, mpre]) ?_
        simp [hF, retK]
end Go.Proofs.Ytahgopdamgagkaa

/- Proved: LineageCopies returns true for every input, and its arguments read behind the call as before. No condition. -/
namespace Go.Proofs.Ytahgopdamgagkaa.lineageCopies
set_option linter.all false
open Go.Vc Go.ChangeShapes Go.WideShapes Go.ChangeAt Go.RowKit
set_option linter.unusedVariables false

theorem own : ownKnob Try.prog.godebug = none := by kernel_rfl
theorem laid : laidOutB Try.prog = true := by kernel_rfl

set_option maxRecDepth 100000 in
theorem lifted (os : Os) (started : os.Started) (H : Type) (enc : TypeId × Value → H) :
    ReturnsInHanded {} Try.checked os 6 .any (Rows.lineageCopiesSpec.pre6 enc Try.prog Try.f6 Rows.lineageCopiesRow.domain false) (Rows.lineageCopiesSpec.post enc Try.prog Try.f6 false true false false) := by
  refine returnsInHanded_of_change (C := Try.checked) own started (by kernel_rfl) Try.func6
    (ChangeSpec.witness6 (enc := enc) (C := Try.checked) false ⟨#[], #[.slice none 0 0, .slice none 0 0], []⟩ 8 (by kernel_rfl) (by kernel_rfl) (by kernel_rfl) (by kernel_rfl)) ?_
  intro W base args ds gs before hval0 hW hcnd _
  have hval : ∀ (j : Nat) t v, Try.f6.params[j]? = some t → args[j]? = some v → Value.okWide Try.prog W .any base t v := hval0
  have hW' := hW
  obtain ⟨p, q, hA0, hV, rfl, hfz, hnd⟩ := hW
  have hA : DataW.TrodAll enc Try.prog W 0 (fun _ => true) true Try.f6.params.toList args.toList ds p := hA0
  rw [Try.params6] at hA hval
  obtain ⟨v0, vs0, d0, ds0, p0, q0, hargs0, rfl, rfl, h0, r0⟩ := trodAll_cons hA
  obtain ⟨v1, vs1, d1, ds1, p1, q1, hargs1, rfl, rfl, h1, r1⟩ := trodAll_cons r0
  obtain ⟨rfl, rfl, rfl⟩ := trodAll_nil r1
  subst hargs1
  obtain rfl : args = #[v0, v1] := by cases args; simp_all
  obtain ⟨rfl, rfl⟩ := trodVars_none hV
  obtain ⟨a0, hlen0, hr0⟩ := deeds_of (hval 0 22 v0 rfl rfl) h0
  obtain ⟨a1, hlen1, hr1⟩ := deeds_of (hval 1 22 v1 rfl rfl) h1
  clear hA0 hval0
  have hwalk : Calls Try.prog 6 #[v0, v1] W fun e w' => e = .returned (.bool true) ∧ Below W.heap.size W w' :=
    Meets.law (copies_ok false false a0 a1) (vs := [v0, v1]) (I := allB W) (fun _ h => h) ⟨v0, _, rfl, hr0, ⟨v1, _, rfl, hr1, rfl⟩⟩
  refine hwalk.mono fun e W' ⟨he, bel⟩ => ?_
  subst he
  exact ⟨_, rfl, _, _, _, [], _, [], hW', trodAll_mk1 (shut_bool Try.underlying4 _), (trodAll_cons_mk (Below.trod laid (by kernel_rfl) (of_decide_eq_true (by kernel_rfl)) h0 bel fun x hx => hW'.lt x (by simp [hx])) (trodAll_cons_mk (Below.trod laid (by kernel_rfl) (of_decide_eq_true (by kernel_rfl)) h1 bel fun x hx => hW'.lt x (by simp [hx])) trodAll_mk0)), rfl, bel.frame _, fun h => by cases h⟩

theorem over : Rows.lineageCopiesRow.holds Try.pinned (OpenSpec.ofChange Rows.lineageCopiesSpec) :=
  OpenClaim.holds_of_wide 6 Try.f6 rfl rfl rfl rfl rfl rfl rfl ⟨rfl, rfl, rfl, rfl, rfl⟩ rfl rfl rfl rfl rfl (by kernel_rfl) Try.func6 (by kernel_rfl)
    (of_decide_eq_true (by kernel_rfl)) (by unfold Func.isWrapper; first | (rw [if_pos (by decide +kernel)]; kernel_rfl) | (rw [if_neg (by decide +kernel)]; exact ⟨rfl, rfl⟩))
    (fun os started H enc _ => lifted os started H enc)

/-- THE STATEMENT -/
theorem proved : Rows.LineageCopiesSaid :=
  over
end Go.Proofs.Ytahgopdamgagkaa.lineageCopies
