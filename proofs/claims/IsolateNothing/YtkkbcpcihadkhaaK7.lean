/- Messages; an isolate ends. -/
import Derived.Test.YtkkbcpcihadkhaaK6
import Derived.Test.YtkkbcpcihadkhaaK3
import Derived.ChangeArms
import Derived.ChangeSlices
import Derived.Carry
namespace Go.Proofs.Ytkkbcpcihadkhaa
set_option linter.all false
open Go.Vc Go.Proofs
set_option linter.unusedSimpArgs false
set_option linter.unusedVariables false
set_option maxRecDepth 100000
set_option maxHeartbeats 4000000
attribute [local irreducible] CallW EqK

/- (*cabochon/isolate.House).Freeze -/
theorem freeze_ok (h : Hs) (hok : Hok h) (who x : Int) : Meets Try.prog 38 [dH h] (.cons (.ptr 0 [.d]) (.cons (avInt who) (.cons (avInt x) .nil)))
    fun av X κ => av = avInt (freezeOf h who x).2 ∧ X = [dH (freezeOf h who x).1] ∧ κ = [(0, [.d])] := by
  refine Meets.of_vs tabOk Try.func38 (body := ?_) ?_ (by kernel_rfl) Try.ntmps38 (rs := [.tmp 6]) (by kernel_rfl) rfl (by simp [AV.len]) (by simp only [envOf]; exact rfl) ?_
  rotate_left
  · rfl
  intro w0 I0 F0 hF
  repeat first
    | refine VS.seq ?_
    | (refine VS.keepAt 0 [0, 1, 2] ?_; generalize hK : VS _ _ _ = KK; (try simp); (try subst hK); refine VS.region tabOk (id := 0) [] (by kernel_rfl) ?_; generalize hK : VS _ _ _ = KK; simp (maxSteps := 1000000) [hF]; (try subst hK); try (refine VS.keep [0, 1, 2] ?_; generalize hK : VS _ _ _ = KK; simp; (try subst hK)))
    | (refine VS.keepAt 1 [0, 1, 2] ?_; generalize hK : VS _ _ _ = KK; (try simp); (try subst hK); refine VS.region tabOk (id := 1) [] (by kernel_rfl) ?_; generalize hK : VS _ _ _ = KK; simp (maxSteps := 1000000) [hF]; (try subst hK); try (refine VS.keep [0, 2, 7] ?_; generalize hK : VS _ _ _ = KK; simp; (try subst hK)))
  by_cases hz : askOf h who [x] = 0
  · have ht : isT h x = true := (ask_ok hz).2.1 x (by simp)
    obtain ⟨k, rfl, hk⟩ := isT_nat ht
    have hn := dTgs_nth (o := true) hk
    have hs2 := dTgs_set true h.things k { h.things[k] with frozen := true }
    cases hl : h.things[k].list with
    | true =>
      rw [hl] at hn
      have hc : freezeOf h who k = ({ h with things := h.things.set k { h.things[k] with frozen := true } }, 0) := by simp [freezeOf, hz, hk, hl, setTg]
      simp only [hl] at hs2 hc
      refine (ask_c1 h who true k).call [(0, []), (1, [])] (by simp) (by simp (maxSteps := 1000000) [hF, hz, dH]) (by simp (maxSteps := 1000000) [hF, hz, dH]) (by simp (maxSteps := 1000000) [hF, hz, dH]) (by simp) ?_
      rintro av X κ ⟨rfl, rfl, rfl⟩
      generalize hK : VS _ _ _ = KK; simp (maxSteps := 1000000) [hF, hz, dH]; (try subst hK)
      repeat first
        | refine VS.seq ?_
        | (refine VS.keepAt 2 [0, 2, 7] ?_; generalize hK : VS _ _ _ = KK; (try simp); (try subst hK); refine VS.region tabOk (id := 2) [(2, 15)] (by kernel_rfl) ?_; generalize hK : VS _ _ _ = KK; simp (maxSteps := 1000000) [hF, hz, dH, hn, hk, hs2]; (try subst hK); try (refine VS.keep [0, 2, 7, 24] ?_; generalize hK : VS _ _ _ = KK; simp; (try subst hK)))
        | (refine VS.keepAt 3 [0, 2, 7] ?_; generalize hK : VS _ _ _ = KK; (try simp); (try subst hK); refine VS.region tabOk (id := 3) [] (by kernel_rfl) ?_; generalize hK : VS _ _ _ = KK; simp (maxSteps := 1000000) [hF, hz, dH, hn, hk, hs2]; (try subst hK); try (refine VS.keep [7] ?_; generalize hK : VS _ _ _ = KK; simp; (try subst hK)))
        | (refine VS.keepAt 4 [7] ?_; generalize hK : VS _ _ _ = KK; (try simp); (try subst hK); refine VS.region tabOk (id := 4) [] (by kernel_rfl) ?_; generalize hK : VS _ _ _ = KK; simp (maxSteps := 1000000) [hF, hz, dH, hn, hk, hs2]; (try subst hK); try (refine VS.keep [6] ?_; generalize hK : VS _ _ _ = KK; simp; (try subst hK)))
        | (refine VS.cond ?_; generalize hK1 : VS _ _ _ = KK1; generalize hK2 : VS _ _ _ = KK2; simp (maxSteps := 1000000) [hF, hz, dH, hn, hk, hs2]; (try subst hK1); (try subst hK2))
      refine VS.widen [(0, [.d])] (by simp [covers, mpre]) ?_
      try refine VS.ret ?_
      repeat first | refine blockN_ret ?_ | refine loopN_ret ?_
      refine endK.of [6] [0] [(0, [.d])] (by simp [hF]) (by simp [covers, mpre]) ?_
      simp [hF, retK, dH, hc]
    | false =>
      rw [hl] at hn
      have hc : freezeOf h who k = (h, 0) := by simp [freezeOf, hz, hk, hl]
      refine (ask_c1 h who true k).call [(0, []), (1, [])] (by simp) (by simp (maxSteps := 1000000) [hF, hz, dH]) (by simp (maxSteps := 1000000) [hF, hz, dH]) (by simp (maxSteps := 1000000) [hF, hz, dH]) (by simp) ?_
      rintro av X κ ⟨rfl, rfl, rfl⟩
      generalize hK : VS _ _ _ = KK; simp (maxSteps := 1000000) [hF, hz, dH]; (try subst hK)
      repeat first
        | refine VS.seq ?_
        | refine VS.skip ?_
        | (refine VS.keepAt 2 [0, 2, 7] ?_; generalize hK : VS _ _ _ = KK; (try simp); (try subst hK); refine VS.region tabOk (id := 2) [(2, 15)] (by kernel_rfl) ?_; generalize hK : VS _ _ _ = KK; simp (maxSteps := 1000000) [hF, hz, dH, hn, hk]; (try subst hK); try (refine VS.keep [0, 2, 7, 24] ?_; generalize hK : VS _ _ _ = KK; simp; (try subst hK)))
        | (refine VS.keepAt 4 [7] ?_; generalize hK : VS _ _ _ = KK; (try simp); (try subst hK); refine VS.region tabOk (id := 4) [] (by kernel_rfl) ?_; generalize hK : VS _ _ _ = KK; simp (maxSteps := 1000000) [hF, hz, dH, hn, hk]; (try subst hK); try (refine VS.keep [6] ?_; generalize hK : VS _ _ _ = KK; simp; (try subst hK)))
        | (refine VS.cond ?_; generalize hK1 : VS _ _ _ = KK1; generalize hK2 : VS _ _ _ = KK2; simp (maxSteps := 1000000) [hF, hz, dH, hn, hk]; (try subst hK1); (try subst hK2))
      refine VS.widen [(0, [.d])] (by simp [covers, mpre]) ?_
      try refine VS.ret ?_
      repeat first | refine blockN_ret ?_ | refine loopN_ret ?_
      refine endK.of [6] [0] [(0, [.d])] (by simp [hF]) (by simp [covers, mpre]) ?_
      simp [hF, retK, dH, hc]
  · have hc : freezeOf h who x = (h, askOf h who [x]) := by simp [freezeOf, hz]
    refine (ask_c1 h who true x).call [(0, []), (1, [])] (by simp) (by simp (maxSteps := 1000000) [hF, hz, dH]) (by simp (maxSteps := 1000000) [hF, hz, dH]) (by simp (maxSteps := 1000000) [hF, hz, dH]) (by simp) ?_
    rintro av X κ ⟨rfl, rfl, rfl⟩
    generalize hK : VS _ _ _ = KK; simp (maxSteps := 1000000) [hF, hz, dH]; (try subst hK)
    repeat first
      | refine VS.seq ?_
      | refine VS.skip ?_
      | (refine VS.keepAt 2 [0, 2, 7] ?_; generalize hK : VS _ _ _ = KK; (try simp); (try subst hK); refine VS.region tabOk (id := 2) [(2, 15)] (by kernel_rfl) ?_; generalize hK : VS _ _ _ = KK; simp (maxSteps := 1000000) [hF, hz]; (try subst hK); try (refine VS.keep [0, 2, 7, 24] ?_; generalize hK : VS _ _ _ = KK; simp; (try subst hK)))
      | (refine VS.keepAt 4 [7] ?_; generalize hK : VS _ _ _ = KK; (try simp); (try subst hK); refine VS.region tabOk (id := 4) [] (by kernel_rfl) ?_; generalize hK : VS _ _ _ = KK; simp (maxSteps := 1000000) [hF, hz]; (try subst hK); try (refine VS.keep [6] ?_; generalize hK : VS _ _ _ = KK; simp; (try subst hK)))
      | (refine VS.cond ?_; generalize hK1 : VS _ _ _ = KK1; generalize hK2 : VS _ _ _ = KK2; simp (maxSteps := 1000000) [hF, hz]; (try subst hK1); (try subst hK2))
    refine VS.widen [(0, [.d])] (by simp [covers, mpre]) ?_
    try refine VS.ret ?_
    repeat first | refine blockN_ret ?_ | refine loopN_ret ?_
    refine endK.of [6] [0] [(0, [.d])] (by simp [hF]) (by simp [covers, mpre]) ?_
    simp [hF, retK, dH, hc]

/- (*cabochon/isolate.House).put -/
theorem put_ok (h : Hs) (to : Nat) (x : Int) (ht : to < h.rooms.length) (hq : h.rooms[to].queue.length ≤ 1000) : Meets Try.prog 49 [dH h] (.cons (.ptr 0 [.d]) (.cons (avInt to) (.cons (avInt x) .nil)))
    fun av X κ => X = [dH (putOf h to x)] ∧ κ = [(0, [.d])] := by
  have hn := dRms_nth (o := true) ht
  have hs2 := dRms_set true h.rooms to { h.rooms[to] with queue := h.rooms[to].queue ++ [x] }
  have hp := dInts_app1 h.rooms[to].queue x
  have hm : (dInts (h.rooms[to].queue ++ [x])).mid 0 (h.rooms[to].queue.length + 1) = dInts (h.rooms[to].queue ++ [x]) := sq_mid_all _ _ (by simp)
  have hc : putOf h to x = { h with rooms := h.rooms.set to { h.rooms[to] with queue := h.rooms[to].queue ++ [x] } } := by simp [putOf, setRm, ht]
  have c1 : (h.rooms[to].queue.length + 1) * 8 ≤ 140737488355328 := by omega
  have c2 : h.rooms[to].queue.length ≤ 9223372036854775806 := by omega
  refine Meets.of_vs tabOk Try.func49 (body := ?_) ?_ (by kernel_rfl) Try.ntmps49 (rs := []) (by kernel_rfl) rfl (by simp [AV.len]) (by simp only [envOf]; exact rfl) ?_
  rotate_left
  · rfl
  intro w0 I0 F0 hF
  refine VS.lift 0 [.d, .f 0, .i to, .f 0] (by simp (maxSteps := 1000000) [hF, dH, hn, ht]) (by simp (maxSteps := 1000000) [hF, dH, hn, ht]) (by simp [isNode, dH, hn, ht]) (by simp (maxSteps := 1000000) [hF, dH, hn, ht]) ?_
  generalize hK : VS _ _ _ = KK; simp [hF, St.lift, AV.lift, liftPl, stripP, nodeAV, dH, hn, ht]; (try subst hK)
  repeat first
    | (refine VS.keepAt 0 [0, 1, 2] ?_; generalize hK : VS _ _ _ = KK; (try simp); (try subst hK); refine VS.drawn tabOk mixedOk (id := 0) [] [⟨0, 1, 64, 5⟩, ⟨1, 64, 128, 5⟩, ⟨2, 128, 256, 5⟩, ⟨4, 256, 512, 6⟩, ⟨0, 2, 1024, 5⟩, ⟨0, 1, 2048, 5⟩, ⟨32, 2048, 4096, 5⟩, ⟨64, 4096, 8192, 5⟩, ⟨128, 8192, 16384, 6⟩, ⟨0, 2, 32768, 5⟩, ⟨768, 49152, 65536, 5⟩, ⟨1024, 65536, 131072, 5⟩, ⟨2048, 131072, 262144, 6⟩, ⟨0, 4, 524288, 5⟩, ⟨8192, 524288, 1048576, 4⟩, ⟨20480, 1310720, 2097152, 0⟩, ⟨65535, 1536, 4194304, 5⟩, ⟨131071, 4194304, 8388608, 5⟩, ⟨196607, 10485760, 0, 0⟩] (.take 0 (.take 1 (.take 2 (.take 4 (.take 5 (.take 6 (.take 7 (.take 8 (.take 9 (.take 10 (.take 11 (.take 12 (.take 13 (.fork (.alt 3 (.fork (.alt 14 (.fork (.alt 15 (.take 16 (.take 17 (.fork (.alt 18 (.done) (.nil))))) (.nil))) (.nil))) (.alt 14 (.fork (.alt 3 (.fork (.alt 15 (.take 16 (.take 17 (.fork (.alt 18 (.done) (.nil))))) (.nil))) (.alt 15 (.take 3 (.take 16 (.take 17 (.fork (.alt 18 (.done) (.nil)))))) (.nil)))) (.nil))))))))))))))))) (.run [0, 1, 2, 4, 5, 6, 7, 8, 9, 10, 11, 12, 13] (.both (.run [3, 14, 15, 16, 17, 18] (.done)) (.run [14] (.both (.run [3, 15, 16, 17, 18] (.done)) (.run [15, 3, 16, 17, 18] (.done)))))) (by kernel_rfl) (by kernel_rfl) (by kernel_rfl) ?_; generalize hK : VS _ _ _ = KK; simp only [opsVc_run, opsVc_both, opsVc_chk, opsVc_done, opsVc_yes, pick_cons, pick_nil, List.getElem?_cons_zero, List.getElem?_cons_succ]; simp (maxSteps := 1000000) [hF, hn, ht, hs2, hp, hm, c1, c2, T.nth_setN_same]; (try subst hK); try (refine VS.keep [] ?_; generalize hK : VS _ _ _ = KK; simp; (try subst hK)))
  repeat' first | refine And.intro ?_ ?_ | refine VS.nil ?_
  all_goals try refine VS.ret ?_
  all_goals repeat first | refine blockN_ret ?_ | refine loopN_ret ?_
  all_goals refine endK.of [] [0] [(0, [.d])] (by simp [hF]) (by simp [covers, mpre]) ?_
  all_goals simp [hF, retK, dH, hc]

/- (*cabochon/isolate.House).Push -/
theorem push_ok (h : Hs) (hok : Hok h) (who x z : Int) : Meets Try.prog 37 [dH h] (.cons (.ptr 0 [.d]) (.cons (avInt who) (.cons (avInt x) (.cons (avInt z) .nil))))
    fun av X κ => av = avInt (pushOf h who x z).2 ∧ X = [dH (pushOf h who x z).1] ∧ κ = [(0, [.d])] := by
  refine Meets.of_vs tabOk Try.func37 (body := ?_) ?_ (by kernel_rfl) Try.ntmps37 (rs := [.tmp 8]) (by kernel_rfl) rfl (by simp [AV.len]) (by simp only [envOf]; exact rfl) ?_
  rotate_left
  · rfl
  intro w0 I0 F0 hF
  repeat first
    | refine VS.seq ?_
    | (refine VS.keepAt 0 [0, 1, 2, 3] ?_; generalize hK : VS _ _ _ = KK; (try simp); (try subst hK); refine VS.region tabOk (id := 0) [] (by kernel_rfl) ?_; generalize hK : VS _ _ _ = KK; simp (maxSteps := 1000000) [hF]; (try subst hK); try (refine VS.keep [0, 1, 2, 3] ?_; generalize hK : VS _ _ _ = KK; simp; (try subst hK)))
    | (refine VS.keepAt 1 [0, 1, 2, 3] ?_; generalize hK : VS _ _ _ = KK; (try simp); (try subst hK); refine VS.region tabOk (id := 1) [(4, 15)] (by kernel_rfl) ?_; generalize hK : VS _ _ _ = KK; simp (maxSteps := 1000000) [hF]; (try subst hK); try (refine VS.keep [0, 1, 2, 3, 25] ?_; generalize hK : VS _ _ _ = KK; simp; (try subst hK)))
  cases ht : isT h x with
  | false =>
    have hz : askOf h who [x, z] = 1 := by simp [askOf, ht]
    have hc : pushOf h who x z = (h, 1) := by simp [pushOf, ht, hz]
    refine (has_c1 h true x).call [(0, []), (1, [])] (by simp) (by simp (maxSteps := 1000000) [hF, ht, dH]) (by simp (maxSteps := 1000000) [hF, ht, dH]) (by simp (maxSteps := 1000000) [hF, ht, dH]) (by simp) ?_
    rintro av X κ ⟨rfl, rfl, rfl⟩
    generalize hK : VS _ _ _ = KK; simp (maxSteps := 1000000) [hF, ht, dH]; (try subst hK)
    repeat first
      | refine VS.seq ?_
      | refine VS.skip ?_
      | (refine VS.keepAt 3 [0, 1, 2, 3] ?_; generalize hK : VS _ _ _ = KK; (try simp); (try subst hK); refine VS.region tabOk (id := 3) [] (by kernel_rfl) ?_; generalize hK : VS _ _ _ = KK; simp (maxSteps := 1000000) [hF]; (try subst hK); try (refine VS.keep [0, 2, 3, 9] ?_; generalize hK : VS _ _ _ = KK; simp; (try subst hK)))
      | (refine VS.cond ?_; generalize hK1 : VS _ _ _ = KK1; generalize hK2 : VS _ _ _ = KK2; simp (maxSteps := 1000000) [hF]; (try subst hK1); (try subst hK2))
    refine (ask_c2 h who true x z).call [(0, []), (2, [])] (by simp) (by simp (maxSteps := 1000000) [hF, hz, dH]) (by simp (maxSteps := 1000000) [hF, hz, dH]) (by simp (maxSteps := 1000000) [hF, hz, dH]) (by simp) ?_
    rintro av X κ ⟨rfl, rfl, rfl⟩
    generalize hK : VS _ _ _ = KK; simp (maxSteps := 1000000) [hF, hz, dH]; (try subst hK)
    repeat first
      | refine VS.seq ?_
      | (refine VS.keepAt 4 [0, 2, 3, 9] ?_; generalize hK : VS _ _ _ = KK; (try simp); (try subst hK); refine VS.region tabOk (id := 4) [] (by kernel_rfl) ?_; generalize hK : VS _ _ _ = KK; simp (maxSteps := 1000000) [hF, hz]; (try subst hK); try (refine VS.keep [0, 2, 3, 9, 33] ?_; generalize hK : VS _ _ _ = KK; simp; (try subst hK)))
      | (refine VS.keepAt 5 [9] ?_; generalize hK : VS _ _ _ = KK; (try simp); (try subst hK); refine VS.region tabOk (id := 5) [] (by kernel_rfl) ?_; generalize hK : VS _ _ _ = KK; simp (maxSteps := 1000000) [hF, hz]; (try subst hK); try (refine VS.keep [8] ?_; generalize hK : VS _ _ _ = KK; simp; (try subst hK)))
      | (refine VS.cond ?_; generalize hK1 : VS _ _ _ = KK1; generalize hK2 : VS _ _ _ = KK2; simp (maxSteps := 1000000) [hF, hz]; (try subst hK1); (try subst hK2))
    refine VS.widen [(0, [.d])] (by simp [covers, mpre]) ?_
    try refine VS.ret ?_
    repeat first | refine blockN_ret ?_ | refine loopN_ret ?_
    refine endK.of [8] [0] [(0, [.d])] (by simp [hF]) (by simp [covers, mpre]) ?_
    simp [hF, retK, dH, hc]
  | true =>
    obtain ⟨k, rfl, hk⟩ := isT_nat ht
    have hn := dTgs_nth (o := true) hk
    cases hl : h.things[k].list with
    | false =>
      rw [hl] at hn
      have hc : pushOf h who k z = (h, 1) := by simp [pushOf, ht, hk, hl]
      refine (has_c1 h true k).call [(0, []), (1, [])] (by simp) (by simp (maxSteps := 1000000) [hF, ht, dH, hn, hk]) (by simp (maxSteps := 1000000) [hF, ht, dH, hn, hk]) (by simp (maxSteps := 1000000) [hF, ht, dH, hn, hk]) (by simp) ?_
      rintro av X κ ⟨rfl, rfl, rfl⟩
      generalize hK : VS _ _ _ = KK; simp (maxSteps := 1000000) [hF, ht, dH, hn, hk]; (try subst hK)
      repeat first
        | refine VS.seq ?_
        | (refine VS.keepAt 2 [] ?_; generalize hK : VS _ _ _ = KK; (try simp); (try subst hK); refine VS.region tabOk (id := 2) [] (by kernel_rfl) ?_; generalize hK : VS _ _ _ = KK; simp (maxSteps := 1000000) [hF, dH, hn, hk]; (try subst hK); try (refine VS.keep [8] ?_; generalize hK : VS _ _ _ = KK; simp; (try subst hK)))
        | (refine VS.cond ?_; generalize hK1 : VS _ _ _ = KK1; generalize hK2 : VS _ _ _ = KK2; simp (maxSteps := 1000000) [hF, dH, hn, hk]; (try subst hK1); (try subst hK2))
      refine VS.widen [(0, [.d])] (by simp [covers, mpre]) ?_
      try refine VS.ret ?_
      repeat first | refine blockN_ret ?_ | refine loopN_ret ?_
      refine endK.of [8] [0] [(0, [.d])] (by simp [hF]) (by simp [covers, mpre]) ?_
      simp [hF, retK, dH, hc]
    | true =>
      rw [hl] at hn
      refine (has_c1 h true k).call [(0, []), (1, [])] (by simp) (by simp (maxSteps := 1000000) [hF, ht, dH, hn, hk]) (by simp (maxSteps := 1000000) [hF, ht, dH, hn, hk]) (by simp (maxSteps := 1000000) [hF, ht, dH, hn, hk]) (by simp) ?_
      rintro av X κ ⟨rfl, rfl, rfl⟩
      generalize hK : VS _ _ _ = KK; simp (maxSteps := 1000000) [hF, ht, dH, hn, hk]; (try subst hK)
      repeat first
        | refine VS.seq ?_
        | refine VS.skip ?_
        | (refine VS.keepAt 3 [0, 1, 2, 3] ?_; generalize hK : VS _ _ _ = KK; (try simp); (try subst hK); refine VS.region tabOk (id := 3) [] (by kernel_rfl) ?_; generalize hK : VS _ _ _ = KK; simp (maxSteps := 1000000) [hF, dH, hn, hk]; (try subst hK); try (refine VS.keep [0, 2, 3, 9] ?_; generalize hK : VS _ _ _ = KK; simp; (try subst hK)))
        | (refine VS.cond ?_; generalize hK1 : VS _ _ _ = KK1; generalize hK2 : VS _ _ _ = KK2; simp (maxSteps := 1000000) [hF, dH, hn, hk]; (try subst hK1); (try subst hK2))
      by_cases hz : askOf h who [(k : Int), z] = 0
      · cases hf : h.things[k].frozen with
        | true =>
          rw [hf] at hn
          have hc : pushOf h who k z = (h, 13) := by simp [pushOf, ht, hk, hl, hz, hf]
          refine (ask_c2 h who true k z).call [(0, []), (2, [])] (by simp) (by simp (maxSteps := 1000000) [hF, hz, dH]) (by simp (maxSteps := 1000000) [hF, hz, dH]) (by simp (maxSteps := 1000000) [hF, hz, dH]) (by simp) ?_
          rintro av X κ ⟨rfl, rfl, rfl⟩
          generalize hK : VS _ _ _ = KK; simp (maxSteps := 1000000) [hF, hz, dH]; (try subst hK)
          repeat first
            | refine VS.seq ?_
            | refine VS.skip ?_
            | refine VS.block ?_
            | (refine VS.keepAt 4 [0, 2, 3, 9] ?_; generalize hK : VS _ _ _ = KK; (try simp); (try subst hK); refine VS.region tabOk (id := 4) [] (by kernel_rfl) ?_; generalize hK : VS _ _ _ = KK; simp (maxSteps := 1000000) [hF, hz, dH, hn, hk]; (try subst hK); try (refine VS.keep [0, 2, 3, 9, 33] ?_; generalize hK : VS _ _ _ = KK; simp; (try subst hK)))
            | (refine VS.keepAt 6 [0, 2, 3] ?_; generalize hK : VS _ _ _ = KK; (try simp); (try subst hK); refine VS.region tabOk (id := 6) [] (by kernel_rfl) ?_; generalize hK : VS _ _ _ = KK; simp (maxSteps := 1000000) [hF, hz, dH, hn, hk]; (try subst hK); try (refine VS.keep [3, 10] ?_; generalize hK : VS _ _ _ = KK; simp; (try subst hK)))
            | (refine VS.keepAt 7 [3, 10] ?_; generalize hK : VS _ _ _ = KK; (try simp); (try subst hK); refine VS.region tabOk (id := 7) [] (by kernel_rfl) ?_; generalize hK : VS _ _ _ = KK; simp (maxSteps := 1000000) [hF, hz, dH, hn, hk]; (try subst hK); try (refine VS.keep [3, 10, 41] ?_; generalize hK : VS _ _ _ = KK; simp; (try subst hK)))
            | (refine VS.keepAt 8 [] ?_; generalize hK : VS _ _ _ = KK; (try simp); (try subst hK); refine VS.region tabOk (id := 8) [] (by kernel_rfl) ?_; generalize hK : VS _ _ _ = KK; simp (maxSteps := 1000000) [hF, hz, dH, hn, hk]; (try subst hK); try (refine VS.keep [8] ?_; generalize hK : VS _ _ _ = KK; simp; (try subst hK)))
            | (refine VS.cond ?_; generalize hK1 : VS _ _ _ = KK1; generalize hK2 : VS _ _ _ = KK2; simp (maxSteps := 1000000) [hF, hz, dH, hn, hk]; (try subst hK1); (try subst hK2))
          refine VS.widen [(0, [.d])] (by simp [covers, mpre]) ?_
          try refine VS.ret ?_
          repeat first | refine blockN_ret ?_ | refine loopN_ret ?_
          refine endK.of [8] [0] [(0, [.d])] (by simp [hF]) (by simp [covers, mpre]) ?_
          simp [hF, retK, dH, hc]
        | false =>
          rw [hf] at hn
          by_cases h5 : 50 ≤ h.things[k].items.length
          · have h5i : (50 : Int) ≤ h.things[k].items.length := by omega
            have hc : pushOf h who k z = (h, 9) := by simp [pushOf, ht, hk, hl, hz, hf, h5]
            refine (ask_c2 h who true k z).call [(0, []), (2, [])] (by simp) (by simp (maxSteps := 1000000) [hF, hz, dH]) (by simp (maxSteps := 1000000) [hF, hz, dH]) (by simp (maxSteps := 1000000) [hF, hz, dH]) (by simp) ?_
            rintro av X κ ⟨rfl, rfl, rfl⟩
            generalize hK : VS _ _ _ = KK; simp (maxSteps := 1000000) [hF, hz, dH]; (try subst hK)
            repeat first
              | refine VS.seq ?_
              | refine VS.skip ?_
              | refine VS.block ?_
              | (refine VS.keepAt 4 [0, 2, 3, 9] ?_; generalize hK : VS _ _ _ = KK; (try simp); (try subst hK); refine VS.region tabOk (id := 4) [] (by kernel_rfl) ?_; generalize hK : VS _ _ _ = KK; simp (maxSteps := 1000000) [hF, hz, dH, hn, hk, h5i]; (try subst hK); try (refine VS.keep [0, 2, 3, 9, 33] ?_; generalize hK : VS _ _ _ = KK; simp; (try subst hK)))
              | (refine VS.keepAt 6 [0, 2, 3] ?_; generalize hK : VS _ _ _ = KK; (try simp); (try subst hK); refine VS.region tabOk (id := 6) [] (by kernel_rfl) ?_; generalize hK : VS _ _ _ = KK; simp (maxSteps := 1000000) [hF, hz, dH, hn, hk, h5i]; (try subst hK); try (refine VS.keep [3, 10] ?_; generalize hK : VS _ _ _ = KK; simp; (try subst hK)))
              | (refine VS.keepAt 7 [3, 10] ?_; generalize hK : VS _ _ _ = KK; (try simp); (try subst hK); refine VS.region tabOk (id := 7) [] (by kernel_rfl) ?_; generalize hK : VS _ _ _ = KK; simp (maxSteps := 1000000) [hF, hz, dH, hn, hk, h5i]; (try subst hK); try (refine VS.keep [3, 10, 41] ?_; generalize hK : VS _ _ _ = KK; simp; (try subst hK)))
              | (refine VS.keepAt 9 [3, 10] ?_; generalize hK : VS _ _ _ = KK; (try simp); (try subst hK); refine VS.region tabOk (id := 9) [] (by kernel_rfl) ?_; generalize hK : VS _ _ _ = KK; simp (maxSteps := 1000000) [hF, hz, dH, hn, hk, h5i]; (try subst hK); try (refine VS.keep [3, 10, 46] ?_; generalize hK : VS _ _ _ = KK; simp; (try subst hK)))
              | (refine VS.keepAt 10 [] ?_; generalize hK : VS _ _ _ = KK; (try simp); (try subst hK); refine VS.region tabOk (id := 10) [] (by kernel_rfl) ?_; generalize hK : VS _ _ _ = KK; simp (maxSteps := 1000000) [hF, hz, dH, hn, hk, h5i]; (try subst hK); try (refine VS.keep [8] ?_; generalize hK : VS _ _ _ = KK; simp; (try subst hK)))
              | (refine VS.cond ?_; generalize hK1 : VS _ _ _ = KK1; generalize hK2 : VS _ _ _ = KK2; simp (maxSteps := 1000000) [hF, hz, dH, hn, hk, h5i]; (try subst hK1); (try subst hK2))
            refine VS.widen [(0, [.d])] (by simp [covers, mpre]) ?_
            try refine VS.ret ?_
            repeat first | refine blockN_ret ?_ | refine loopN_ret ?_
            refine endK.of [8] [0] [(0, [.d])] (by simp [hF]) (by simp [covers, mpre]) ?_
            simp [hF, retK, dH, hc]
          · have h5i : ¬ (50 : Int) ≤ h.things[k].items.length := by omega
            have hc : pushOf h who k z = ({ h with things := h.things.set k { h.things[k] with items := h.things[k].items ++ [z] } }, 0) := by simp [pushOf, ht, hk, hl, hz, hf, h5, setTg]
            have hs2 := dTgs_set true h.things k { h.things[k] with items := h.things[k].items ++ [z] }
            simp only [hf, hl] at hs2 hc
            have hp := dInts_app1 h.things[k].items z
            have hm : (dInts (h.things[k].items ++ [z])).mid 0 (h.things[k].items.length + 1) = dInts (h.things[k].items ++ [z]) := sq_mid_all _ _ (by simp)
            have c1 : (h.things[k].items.length + 1) * 8 ≤ 140737488355328 := by omega
            have c2 : h.things[k].items.length ≤ 9223372036854775806 := by omega
            refine (ask_c2 h who true k z).call [(0, []), (2, [])] (by simp) (by simp (maxSteps := 1000000) [hF, hz, dH]) (by simp (maxSteps := 1000000) [hF, hz, dH]) (by simp (maxSteps := 1000000) [hF, hz, dH]) (by simp) ?_
            rintro av X κ ⟨rfl, rfl, rfl⟩
            generalize hK : VS _ _ _ = KK; simp (maxSteps := 1000000) [hF, hz, dH]; (try subst hK)
            repeat first
              | refine VS.seq ?_
              | refine VS.skip ?_
              | refine VS.block ?_
              | refine VS.nil ?_
              | (refine VS.keepAt 4 [0, 2, 3, 9] ?_; generalize hK : VS _ _ _ = KK; (try simp); (try subst hK); refine VS.region tabOk (id := 4) [] (by kernel_rfl) ?_; generalize hK : VS _ _ _ = KK; simp (maxSteps := 1000000) [hF, hz, dH, hn, hk, h5i]; (try subst hK); try (refine VS.keep [0, 2, 3, 9, 33] ?_; generalize hK : VS _ _ _ = KK; simp; (try subst hK)))
              | (refine VS.keepAt 6 [0, 2, 3] ?_; generalize hK : VS _ _ _ = KK; (try simp); (try subst hK); refine VS.region tabOk (id := 6) [] (by kernel_rfl) ?_; generalize hK : VS _ _ _ = KK; simp (maxSteps := 1000000) [hF, hz, dH, hn, hk, h5i]; (try subst hK); try (refine VS.keep [3, 10] ?_; generalize hK : VS _ _ _ = KK; simp; (try subst hK)))
              | (refine VS.keepAt 7 [3, 10] ?_; generalize hK : VS _ _ _ = KK; (try simp); (try subst hK); refine VS.region tabOk (id := 7) [] (by kernel_rfl) ?_; generalize hK : VS _ _ _ = KK; simp (maxSteps := 1000000) [hF, hz, dH, hn, hk, h5i]; (try subst hK); try (refine VS.keep [3, 10, 41] ?_; generalize hK : VS _ _ _ = KK; simp; (try subst hK)))
              | (refine VS.keepAt 9 [3, 10] ?_; generalize hK : VS _ _ _ = KK; (try simp); (try subst hK); refine VS.region tabOk (id := 9) [] (by kernel_rfl) ?_; generalize hK : VS _ _ _ = KK; simp (maxSteps := 1000000) [hF, hz, dH, hn, hk, h5i]; (try subst hK); try (refine VS.keep [3, 10, 46] ?_; generalize hK : VS _ _ _ = KK; simp; (try subst hK)))
              | (refine VS.cond ?_; generalize hK1 : VS _ _ _ = KK1; generalize hK2 : VS _ _ _ = KK2; simp (maxSteps := 1000000) [hF, hz, dH, hn, hk, h5i]; (try subst hK1); (try subst hK2))
            refine VS.lift 0 [.d, .f 1, .i k, .f 3] (by simp (maxSteps := 1000000) [hF, hn, hk]) (by simp (maxSteps := 1000000) [hF, hn, hk]) (by simp [isNode, hn, hk]) (by simp (maxSteps := 1000000) [hF, hn, hk]) ?_
            generalize hK : VS _ _ _ = KK; simp [hF, St.lift, AV.lift, liftPl, stripP, nodeAV, hn, hk]; (try subst hK)
            repeat first
              | refine VS.seq ?_
              | (refine VS.keepAt 11 [3, 10] ?_; generalize hK : VS _ _ _ = KK; (try simp); (try subst hK); refine VS.region tabOk (id := 11) [] (by kernel_rfl) ?_; generalize hK : VS _ _ _ = KK; simp (maxSteps := 1000000) [hF, hn, hk, hs2, hp, hm, c1, c2, T.nth_setN_same]; (try subst hK); try (refine VS.keep [] ?_; generalize hK : VS _ _ _ = KK; simp; (try subst hK)))
              | (refine VS.keepAt 12 [] ?_; generalize hK : VS _ _ _ = KK; (try simp); (try subst hK); refine VS.region tabOk (id := 12) [] (by kernel_rfl) ?_; generalize hK : VS _ _ _ = KK; simp (maxSteps := 1000000) [hF, hn, hk, hs2, hp, hm, c1, c2, T.nth_setN_same]; (try subst hK); try (refine VS.keep [8] ?_; generalize hK : VS _ _ _ = KK; simp; (try subst hK)))
            refine VS.widen [(0, [.d])] (by simp [covers, mpre]) ?_
            try refine VS.ret ?_
            repeat first | refine blockN_ret ?_ | refine loopN_ret ?_
            refine endK.of [8] [0] [(0, [.d])] (by simp [hF]) (by simp [covers, mpre]) ?_
            simp [hF, retK, dH, hc]
      · have hc : pushOf h who k z = (h, askOf h who [(k : Int), z]) := by simp [pushOf, ht, hk, hl, hz]
        refine (ask_c2 h who true k z).call [(0, []), (2, [])] (by simp) (by simp (maxSteps := 1000000) [hF, hz, dH]) (by simp (maxSteps := 1000000) [hF, hz, dH]) (by simp (maxSteps := 1000000) [hF, hz, dH]) (by simp) ?_
        rintro av X κ ⟨rfl, rfl, rfl⟩
        generalize hK : VS _ _ _ = KK; simp (maxSteps := 1000000) [hF, hz, dH]; (try subst hK)
        repeat first
          | refine VS.seq ?_
          | (refine VS.keepAt 4 [0, 2, 3, 9] ?_; generalize hK : VS _ _ _ = KK; (try simp); (try subst hK); refine VS.region tabOk (id := 4) [] (by kernel_rfl) ?_; generalize hK : VS _ _ _ = KK; simp (maxSteps := 1000000) [hF, hz]; (try subst hK); try (refine VS.keep [0, 2, 3, 9, 33] ?_; generalize hK : VS _ _ _ = KK; simp; (try subst hK)))
          | (refine VS.keepAt 5 [9] ?_; generalize hK : VS _ _ _ = KK; (try simp); (try subst hK); refine VS.region tabOk (id := 5) [] (by kernel_rfl) ?_; generalize hK : VS _ _ _ = KK; simp (maxSteps := 1000000) [hF, hz]; (try subst hK); try (refine VS.keep [8] ?_; generalize hK : VS _ _ _ = KK; simp; (try subst hK)))
          | (refine VS.cond ?_; generalize hK1 : VS _ _ _ = KK1; generalize hK2 : VS _ _ _ = KK2; simp (maxSteps := 1000000) [hF, hz]; (try subst hK1); (try subst hK2))
        refine VS.widen [(0, [.d])] (by simp [covers, mpre]) ?_
        try refine VS.ret ?_
        repeat first | refine blockN_ret ?_ | refine loopN_ret ?_
        refine endK.of [8] [0] [(0, [.d])] (by simp [hF]) (by simp [covers, mpre]) ?_
        simp [hF, retK, dH, hc]

/- (*cabochon/isolate.House).Take -/
theorem take_ok (h : Hs) (hok : Hok h) (who : Int) : Meets Try.prog 34 [dH h] (.cons (.ptr 0 [.d]) (.cons (avInt who) .nil))
    fun av X κ => av = two (takeOf h who).2 ∧ X = [dH (takeOf h who).1] ∧ κ = [(0, [.d])] := by
  refine Meets.of_vs tabOk Try.func34 (body := ?_) ?_ (by kernel_rfl) Try.ntmps34 (rs := [.tmp 4, .tmp 5]) (by kernel_rfl) rfl (by simp [AV.len]) (by simp only [envOf]; exact rfl) ?_
  rotate_left
  · rfl
  intro w0 I0 F0 hF
  repeat first
    | refine VS.seq ?_
    | (refine VS.keepAt 0 [0, 1] ?_; generalize hK : VS _ _ _ = KK; (try simp); (try subst hK); refine VS.region tabOk (id := 0) [] (by kernel_rfl) ?_; generalize hK : VS _ _ _ = KK; simp (maxSteps := 1000000) [hF]; (try subst hK); try (refine VS.keep [0, 1] ?_; generalize hK : VS _ _ _ = KK; simp; (try subst hK)))
    | (refine VS.keepAt 1 [0, 1] ?_; generalize hK : VS _ _ _ = KK; (try simp); (try subst hK); refine VS.region tabOk (id := 1) [] (by kernel_rfl) ?_; generalize hK : VS _ _ _ = KK; simp (maxSteps := 1000000) [hF]; (try subst hK); try (refine VS.keep [0, 1, 6] ?_; generalize hK : VS _ _ _ = KK; simp; (try subst hK)))
  by_cases hz : askOf h who [] = 0
  · obtain ⟨k, rfl, hk⟩ := isR_nat (ask_ok hz).1
    have hn := dRms_nth (o := true) hk
    have hql := (hok.queues _ (List.getElem_mem hk)).1
    cases hq : h.rooms[k].queue with
    | nil =>
      have hc : takeOf h k = (h, 0, 3) := by simp [takeOf, hz, hk, hq]
      rw [hq] at hn
      refine (ask_cn h k).call [(0, [])] (by simp) (by simp (maxSteps := 1000000) [hF, hz, dH]) (by simp (maxSteps := 1000000) [hF, hz, dH]) (by simp (maxSteps := 1000000) [hF, hz, dH]) (by simp) ?_
      rintro av X κ ⟨rfl, rfl, rfl⟩
      generalize hK : VS _ _ _ = KK; simp (maxSteps := 1000000) [hF, hz, dH]; (try subst hK)
      repeat first
        | refine VS.seq ?_
        | refine VS.skip ?_
        | (refine VS.keepAt 2 [0, 1, 6] ?_; generalize hK : VS _ _ _ = KK; (try simp); (try subst hK); refine VS.region tabOk (id := 2) [] (by kernel_rfl) ?_; generalize hK : VS _ _ _ = KK; simp (maxSteps := 1000000) [hF, hz, dH, hn, hk]; (try subst hK); try (refine VS.keep [0, 1, 6, 13] ?_; generalize hK : VS _ _ _ = KK; simp; (try subst hK)))
        | (refine VS.keepAt 4 [0, 1] ?_; generalize hK : VS _ _ _ = KK; (try simp); (try subst hK); refine VS.region tabOk (id := 4) [] (by kernel_rfl) ?_; generalize hK : VS _ _ _ = KK; simp (maxSteps := 1000000) [hF, hz, dH, hn, hk]; (try subst hK); try (refine VS.keep [7] ?_; generalize hK : VS _ _ _ = KK; simp; (try subst hK)))
        | (refine VS.keepAt 5 [7] ?_; generalize hK : VS _ _ _ = KK; (try simp); (try subst hK); refine VS.region tabOk (id := 5) [] (by kernel_rfl) ?_; generalize hK : VS _ _ _ = KK; simp (maxSteps := 1000000) [hF, hz, dH, hn, hk]; (try subst hK); try (refine VS.keep [7, 26] ?_; generalize hK : VS _ _ _ = KK; simp; (try subst hK)))
        | (refine VS.keepAt 6 [] ?_; generalize hK : VS _ _ _ = KK; (try simp); (try subst hK); refine VS.region tabOk (id := 6) [] (by kernel_rfl) ?_; generalize hK : VS _ _ _ = KK; simp (maxSteps := 1000000) [hF, hz, dH, hn, hk]; (try subst hK); try (refine VS.keep [4, 5] ?_; generalize hK : VS _ _ _ = KK; simp; (try subst hK)))
        | (refine VS.cond ?_; generalize hK1 : VS _ _ _ = KK1; generalize hK2 : VS _ _ _ = KK2; simp (maxSteps := 1000000) [hF, hz, dH, hn, hk]; (try subst hK1); (try subst hK2))
      refine VS.widen [(0, [.d])] (by simp [covers, mpre]) ?_
      try refine VS.ret ?_
      repeat first | refine blockN_ret ?_ | refine loopN_ret ?_
      refine endK.of [4, 5] [0] [(0, [.d])] (by simp [hF]) (by simp [covers, mpre]) ?_
      simp [hF, retK, dH, hc]
    | cons x q =>
      have hc : takeOf h k = ({ h with rooms := h.rooms.set k (⟨q, h.rooms[k].over⟩ : Rm) }, x, 0) := by simp [takeOf, hz, hk, hq, setRm]
      have hs2 := dRms_set true h.rooms k ⟨q, h.rooms[k].over⟩
      rw [hq] at hn hql
      have hn0 : (dInts (x :: q)).nth 0 = .val (.int .i64 x) := by rw [dInts_nth (by simp)]; rfl
      have hm : (dInts (x :: q)).mid 1 q.length = dInts q := by rw [dInts_mid]; simp
      have c1 : ¬ (q.length : Int) + 1 = 0 := by omega
      refine (ask_cn h k).call [(0, [])] (by simp) (by simp (maxSteps := 1000000) [hF, hz, dH]) (by simp (maxSteps := 1000000) [hF, hz, dH]) (by simp (maxSteps := 1000000) [hF, hz, dH]) (by simp) ?_
      rintro av X κ ⟨rfl, rfl, rfl⟩
      generalize hK : VS _ _ _ = KK; simp (maxSteps := 1000000) [hF, hz, dH]; (try subst hK)
      repeat first
        | refine VS.seq ?_
        | refine VS.skip ?_
        | (refine VS.keepAt 2 [0, 1, 6] ?_; generalize hK : VS _ _ _ = KK; (try simp); (try subst hK); refine VS.region tabOk (id := 2) [] (by kernel_rfl) ?_; generalize hK : VS _ _ _ = KK; simp (maxSteps := 1000000) [hF, hz, dH, hn, hk, c1]; (try subst hK); try (refine VS.keep [0, 1, 6, 13] ?_; generalize hK : VS _ _ _ = KK; simp; (try subst hK)))
        | (refine VS.keepAt 4 [0, 1] ?_; generalize hK : VS _ _ _ = KK; (try simp); (try subst hK); refine VS.region tabOk (id := 4) [] (by kernel_rfl) ?_; generalize hK : VS _ _ _ = KK; simp (maxSteps := 1000000) [hF, hz, dH, hn, hk, c1]; (try subst hK); try (refine VS.keep [7] ?_; generalize hK : VS _ _ _ = KK; simp; (try subst hK)))
        | (refine VS.keepAt 5 [7] ?_; generalize hK : VS _ _ _ = KK; (try simp); (try subst hK); refine VS.region tabOk (id := 5) [] (by kernel_rfl) ?_; generalize hK : VS _ _ _ = KK; simp (maxSteps := 1000000) [hF, hz, dH, hn, hk, c1]; (try subst hK); try (refine VS.keep [7, 26] ?_; generalize hK : VS _ _ _ = KK; simp; (try subst hK)))
        | (refine VS.cond ?_; generalize hK1 : VS _ _ _ = KK1; generalize hK2 : VS _ _ _ = KK2; simp (maxSteps := 1000000) [hF, hz, dH, hn, hk, c1]; (try subst hK1); (try subst hK2))
      refine VS.lift 0 [.d, .f 0, .i k, .f 0] (by simp (maxSteps := 1000000) [hF, dH, hn, hk]) (by simp (maxSteps := 1000000) [hF, dH, hn, hk]) (by simp [isNode, dH, hn, hk]) (by simp (maxSteps := 1000000) [hF, dH, hn, hk]) ?_
      generalize hK : VS _ _ _ = KK; simp [hF, St.lift, AV.lift, liftPl, stripP, nodeAV, dH, hn, hk]; (try subst hK)
      repeat first
        | refine VS.seq ?_
        | (refine VS.keepAt 7 [7] ?_; generalize hK : VS _ _ _ = KK; (try simp); (try subst hK); refine VS.region tabOk (id := 7) [] (by kernel_rfl) ?_; generalize hK : VS _ _ _ = KK; simp (maxSteps := 1000000) [hF, hz, hn, hk, hn0, hs2, hm, T.nth_setN_same]; (try subst hK); try (refine VS.keep [7, 8] ?_; generalize hK : VS _ _ _ = KK; simp; (try subst hK)))
        | (refine VS.keepAt 8 [7, 8] ?_; generalize hK : VS _ _ _ = KK; (try simp); (try subst hK); refine VS.region tabOk (id := 8) [] (by kernel_rfl) ?_; generalize hK : VS _ _ _ = KK; simp (maxSteps := 1000000) [hF, hz, hn, hk, hn0, hs2, hm, T.nth_setN_same]; (try subst hK); try (refine VS.keep [8] ?_; generalize hK : VS _ _ _ = KK; simp; (try subst hK)))
        | (refine VS.keepAt 9 [8] ?_; generalize hK : VS _ _ _ = KK; (try simp); (try subst hK); refine VS.region tabOk (id := 9) [] (by kernel_rfl) ?_; generalize hK : VS _ _ _ = KK; simp (maxSteps := 1000000) [hF, hz, hn, hk, hn0, hs2, hm, T.nth_setN_same]; (try subst hK); try (refine VS.keep [4, 5] ?_; generalize hK : VS _ _ _ = KK; simp; (try subst hK)))
      trace_state
      refine VS.widen [(0, [.d])] (by simp [covers, mpre]) ?_
      try refine VS.ret ?_
      repeat first | refine blockN_ret ?_ | refine loopN_ret ?_
      refine endK.of [4, 5] [0] [(0, [.d])] (by simp [hF]) (by simp [covers, mpre]) ?_
      simp [hF, retK, dH, hc]
  · have hc : takeOf h who = (h, 0, askOf h who []) := by simp [takeOf, hz]
    refine (ask_cn h who).call [(0, [])] (by simp) (by simp (maxSteps := 1000000) [hF, hz, dH]) (by simp (maxSteps := 1000000) [hF, hz, dH]) (by simp (maxSteps := 1000000) [hF, hz, dH]) (by simp) ?_
    rintro av X κ ⟨rfl, rfl, rfl⟩
    generalize hK : VS _ _ _ = KK; simp (maxSteps := 1000000) [hF, hz, dH]; (try subst hK)
    repeat first
      | refine VS.seq ?_
      | (refine VS.keepAt 2 [0, 1, 6] ?_; generalize hK : VS _ _ _ = KK; (try simp); (try subst hK); refine VS.region tabOk (id := 2) [] (by kernel_rfl) ?_; generalize hK : VS _ _ _ = KK; simp (maxSteps := 1000000) [hF, hz]; (try subst hK); try (refine VS.keep [0, 1, 6, 13] ?_; generalize hK : VS _ _ _ = KK; simp; (try subst hK)))
      | (refine VS.keepAt 3 [6] ?_; generalize hK : VS _ _ _ = KK; (try simp); (try subst hK); refine VS.region tabOk (id := 3) [] (by kernel_rfl) ?_; generalize hK : VS _ _ _ = KK; simp (maxSteps := 1000000) [hF, hz]; (try subst hK); try (refine VS.keep [4, 5] ?_; generalize hK : VS _ _ _ = KK; simp; (try subst hK)))
      | (refine VS.cond ?_; generalize hK1 : VS _ _ _ = KK1; generalize hK2 : VS _ _ _ = KK2; simp (maxSteps := 1000000) [hF, hz]; (try subst hK1); (try subst hK2))
    refine VS.widen [(0, [.d])] (by simp [covers, mpre]) ?_
    try refine VS.ret ?_
    repeat first | refine blockN_ret ?_ | refine loopN_ret ?_
    refine endK.of [4, 5] [0] [(0, [.d])] (by simp [hF]) (by simp [covers, mpre]) ?_
    simp [hF, retK, dH, hc]
end Go.Proofs.Ytkkbcpcihadkhaa

/- An isolate ends; a thing is shared. -/
namespace Go.Proofs.Ytkkbcpcihadkhaa
set_option linter.all false
open Go.Vc Go.Proofs
set_option linter.unusedSimpArgs false
set_option linter.unusedVariables false
set_option maxRecDepth 100000
set_option maxHeartbeats 4000000
attribute [local irreducible] CallW EqK

/- (*cabochon/isolate.House).Over -/
theorem over_ok (h : Hs) (hok : Hok h) (who : Int) : Meets Try.prog 40 [dH h] (.cons (.ptr 0 [.d]) (.cons (avInt who) .nil))
    fun av X κ => av = avInt (overOf h who).2 ∧ X = [dH (overOf h who).1] ∧ κ = [(0, [.d])] := by
  have hw : IntKind.i64.wrap (-2) = -2 := by decide
  have hbd := hok.things
  refine Meets.of_vs tabOk Try.func40 (body := ?_) ?_ (by kernel_rfl) Try.ntmps40 (rs := [.tmp 4]) (by kernel_rfl) rfl (by simp [AV.len]) (by simp only [envOf]; exact rfl) ?_
  rotate_left
  · rfl
  intro w0 I0 F0 hF
  repeat first
    | refine VS.seq ?_
    | (refine VS.keepAt 0 [0, 1] ?_; generalize hK : VS _ _ _ = KK; (try simp); (try subst hK); refine VS.region tabOk (id := 0) [] (by kernel_rfl) ?_; generalize hK : VS _ _ _ = KK; simp (maxSteps := 1000000) [hF]; (try subst hK); try (refine VS.keep [0, 1] ?_; generalize hK : VS _ _ _ = KK; simp; (try subst hK)))
    | (refine VS.keepAt 1 [0, 1] ?_; generalize hK : VS _ _ _ = KK; (try simp); (try subst hK); refine VS.region tabOk (id := 1) [] (by kernel_rfl) ?_; generalize hK : VS _ _ _ = KK; simp (maxSteps := 1000000) [hF]; (try subst hK); try (refine VS.keep [0, 1, 5] ?_; generalize hK : VS _ _ _ = KK; simp; (try subst hK)))
  by_cases hz : askOf h who [] = 0
  · obtain ⟨k, rfl, hk⟩ := isR_nat (ask_ok hz).1
    have hc : overOf h k = ({ rooms := h.rooms.set k ⟨[], true⟩, things := h.things.map (goneF k) }, 0) := by simp [overOf, hz]
    refine (ask_cn h k).call [(0, [])] (by simp) (by simp (maxSteps := 1000000) [hF, hz, dH]) (by simp (maxSteps := 1000000) [hF, hz, dH]) (by simp (maxSteps := 1000000) [hF, hz, dH]) (by simp) ?_
    rintro av X κ ⟨rfl, rfl, rfl⟩
    generalize hK : VS _ _ _ = KK; simp (maxSteps := 1000000) [hF, hz, dH]; (try subst hK)
    repeat first
      | refine VS.seq ?_
      | refine VS.skip ?_
      | refine VS.block ?_
      | (refine VS.keepAt 2 [0, 1, 5] ?_; generalize hK : VS _ _ _ = KK; (try simp); (try subst hK); refine VS.region tabOk (id := 2) [] (by kernel_rfl) ?_; generalize hK : VS _ _ _ = KK; simp (maxSteps := 1000000) [hF, hz, dH]; (try subst hK); try (refine VS.keep [0, 1, 5, 11] ?_; generalize hK : VS _ _ _ = KK; simp; (try subst hK)))
      | (refine VS.keepAt 4 [0, 1] ?_; generalize hK : VS _ _ _ = KK; (try simp); (try subst hK); refine VS.region tabOk (id := 4) [] (by kernel_rfl) ?_; generalize hK : VS _ _ _ = KK; simp (maxSteps := 1000000) [hF, hz, dH]; (try subst hK); try (refine VS.keep [0, 1, 17, 18] ?_; generalize hK : VS _ _ _ = KK; simp; (try subst hK)))
      | (refine VS.cond ?_; generalize hK1 : VS _ _ _ = KK1; generalize hK2 : VS _ _ _ = KK2; simp (maxSteps := 1000000) [hF, hz, dH]; (try subst hK1); (try subst hK2))
    refine VS.widen [(0, [.d])] (by simp [covers, mpre]) ?_
    refine VS.rounds (fun m st => ∃ (i : Nat) (P : List Tg), i + m = h.things.length ∧ P = upto (goneF k) h.things i ∧ st = ⟨[(0, .ptr 0 [.d]), (1, avInt k), (17, avInt h.things.length), (18, avInt i)], [dH { h with things := P }], [(0, [.d])], []⟩) ⟨h.things.length, 0, h.things, by omega, (upto_zero _ _).symm, by simp [dH]⟩ ?_
    rintro m st ⟨i, P, hi, hP, rfl⟩
    have hPl : P.length = h.things.length := by simp [hP]
    repeat first
      | refine VS.seq ?_
      | (refine VS.keepAt 5 [0, 1, 17, 18] ?_; generalize hK : VS _ _ _ = KK; (try simp); (try subst hK); refine VS.region tabOk (id := 5) [] (by kernel_rfl) ?_; generalize hK : VS _ _ _ = KK; simp (maxSteps := 1000000) [hF]; (try subst hK); try (refine VS.keep [0, 1, 17, 18, 19] ?_; generalize hK : VS _ _ _ = KK; simp; (try subst hK)))
      | (refine VS.cond ?_; generalize hK1 : VS _ _ _ = KK1; generalize hK2 : VS _ _ _ = KK2; simp (maxSteps := 1000000) [hF]; (try subst hK1); (try subst hK2))
    refine ⟨fun hlt => ?_, fun hge => ?_⟩
    · have hlP : i < P.length := by omega
      have hn := dTgs_nth (o := true) hlP
      have hPi : P[i] = h.things[i] := by subst hP; exact upto_at hlt
      have hset := dTgs_set true P i ⟨-2, h.things[i].list, h.things[i].word, h.things[i].items, h.things[i].frozen⟩
      rw [hPi] at hn
      have hw1 : IntKind.i64.wrap ((i : Int) + 1) = (i + 1 : Nat) := by rw [IntWalk.i64_in _ (by omega)]; rfl
      by_cases ho : h.things[i].owner = k
      · have hst : P.set i ⟨-2, h.things[i].list, h.things[i].word, h.things[i].items, h.things[i].frozen⟩ = upto (goneF k) h.things (i + 1) := by
          rw [← upto_set hlt, hP]; simp [goneF, ho]
        repeat first
          | refine VS.seq ?_
          | refine VS.skip ?_
          | refine VS.block ?_
          | refine VS.nil ?_
          | refine blockN_normal ?_
          | refine loopN_normal ?_
          | (refine VS.keepAt 6 [0, 1, 17, 18] ?_; generalize hK : VS _ _ _ = KK; (try simp); (try subst hK); refine VS.region tabOk (id := 6) [] (by kernel_rfl) ?_; generalize hK : VS _ _ _ = KK; simp (maxSteps := 1000000) [hF, dH, hn, hlP, ho, hset, hw1, hw]; (try subst hK); try (refine VS.keep [0, 1, 6, 17, 18] ?_; generalize hK : VS _ _ _ = KK; simp; (try subst hK)))
          | (refine VS.keepAt 7 [0, 1, 6, 17, 18] ?_; generalize hK : VS _ _ _ = KK; (try simp); (try subst hK); refine VS.region tabOk (id := 7) [] (by kernel_rfl) ?_; generalize hK : VS _ _ _ = KK; simp (maxSteps := 1000000) [hF, dH, hn, hlP, ho, hset, hw1, hw]; (try subst hK); try (refine VS.keep [0, 1, 6, 17, 18, 30] ?_; generalize hK : VS _ _ _ = KK; simp; (try subst hK)))
          | (refine VS.keepAt 8 [0, 1, 6, 17, 18] ?_; generalize hK : VS _ _ _ = KK; (try simp); (try subst hK); refine VS.region tabOk (id := 8) [] (by kernel_rfl) ?_; generalize hK : VS _ _ _ = KK; simp (maxSteps := 1000000) [hF, dH, hn, hlP, ho, hset, hw1, hw]; (try subst hK); try (refine VS.keep [0, 1, 17, 18] ?_; generalize hK : VS _ _ _ = KK; simp; (try subst hK)))
          | (refine VS.keepAt 9 [0, 1, 17, 18] ?_; generalize hK : VS _ _ _ = KK; (try simp); (try subst hK); refine VS.region tabOk (id := 9) [] (by kernel_rfl) ?_; generalize hK : VS _ _ _ = KK; simp (maxSteps := 1000000) [hF, dH, hn, hlP, ho, hset, hw1, hw]; (try subst hK); try (refine VS.keep [0, 1, 17, 18] ?_; generalize hK : VS _ _ _ = KK; simp; (try subst hK)))
          | (refine VS.cond ?_; generalize hK1 : VS _ _ _ = KK1; generalize hK2 : VS _ _ _ = KK2; simp (maxSteps := 1000000) [hF, dH, hn, hlP, ho, hset, hw1, hw]; (try subst hK1); (try subst hK2))
        refine nextK.of [0, 1, 17, 18] [0] (m - 1) (by omega) (by simp [hF]) ?_
        refine ⟨i + 1, _, by omega, hst, ?_⟩
        simp [dH]
      · have hst : P = upto (goneF k) h.things (i + 1) := by
          rw [upto_skip hlt (by simp [goneF, ho]), hP]
        repeat first
          | refine VS.seq ?_
          | refine VS.skip ?_
          | refine VS.block ?_
          | refine VS.nil ?_
          | refine blockN_normal ?_
          | refine loopN_normal ?_
          | (refine VS.keepAt 6 [0, 1, 17, 18] ?_; generalize hK : VS _ _ _ = KK; (try simp); (try subst hK); refine VS.region tabOk (id := 6) [] (by kernel_rfl) ?_; generalize hK : VS _ _ _ = KK; simp (maxSteps := 1000000) [hF, dH, hn, hlP, ho, hset, hw1, hw]; (try subst hK); try (refine VS.keep [0, 1, 6, 17, 18] ?_; generalize hK : VS _ _ _ = KK; simp; (try subst hK)))
          | (refine VS.keepAt 7 [0, 1, 6, 17, 18] ?_; generalize hK : VS _ _ _ = KK; (try simp); (try subst hK); refine VS.region tabOk (id := 7) [] (by kernel_rfl) ?_; generalize hK : VS _ _ _ = KK; simp (maxSteps := 1000000) [hF, dH, hn, hlP, ho, hset, hw1, hw]; (try subst hK); try (refine VS.keep [0, 1, 6, 17, 18, 30] ?_; generalize hK : VS _ _ _ = KK; simp; (try subst hK)))
          | (refine VS.keepAt 9 [0, 1, 17, 18] ?_; generalize hK : VS _ _ _ = KK; (try simp); (try subst hK); refine VS.region tabOk (id := 9) [] (by kernel_rfl) ?_; generalize hK : VS _ _ _ = KK; simp (maxSteps := 1000000) [hF, dH, hn, hlP, ho, hset, hw1, hw]; (try subst hK); try (refine VS.keep [0, 1, 17, 18] ?_; generalize hK : VS _ _ _ = KK; simp; (try subst hK)))
          | (refine VS.cond ?_; generalize hK1 : VS _ _ _ = KK1; generalize hK2 : VS _ _ _ = KK2; simp (maxSteps := 1000000) [hF, dH, hn, hlP, ho, hset, hw1, hw]; (try subst hK1); (try subst hK2))
        refine nextK.of [0, 1, 17, 18] [0] (m - 1) (by omega) (by simp [hF]) ?_
        refine ⟨i + 1, P, by omega, hst, ?_⟩
        simp [dH]
    · have hPf : P = h.things.map (goneF k) := by rw [hP, show i = h.things.length by omega, upto_all]
      have hn := dRms_nth (o := true) hk
      have hs2 := dRms_set true h.rooms k ⟨[], true⟩
      rw [dInts_nil] at hs2
      repeat first
        | refine VS.seq ?_
        | refine VS.exit ?_
        | (refine VS.keepAt 10 [0, 1] ?_; generalize hK : VS _ _ _ = KK; (try simp); (try subst hK); refine VS.region tabOk (id := 10) [] (by kernel_rfl) ?_; generalize hK : VS _ _ _ = KK; simp (maxSteps := 1000000) [hF, dH, hn, hk, hs2]; (try subst hK); try (refine VS.keep [] ?_; generalize hK : VS _ _ _ = KK; simp; (try subst hK)))
        | (refine VS.keepAt 11 [] ?_; generalize hK : VS _ _ _ = KK; (try simp); (try subst hK); refine VS.region tabOk (id := 11) [] (by kernel_rfl) ?_; generalize hK : VS _ _ _ = KK; simp (maxSteps := 1000000) [hF, dH, hn, hk, hs2]; (try subst hK); try (refine VS.keep [4] ?_; generalize hK : VS _ _ _ = KK; simp; (try subst hK)))
      refine VS.widen [(0, [.d])] (by simp [covers, mpre]) ?_
      try refine VS.ret ?_
      repeat first | refine blockN_ret ?_ | refine loopN_ret ?_
      refine endK.of [4] [0] [(0, [.d])] (by simp [hF]) (by simp [covers, mpre]) ?_
      simp [hF, retK, dH, hc, hPf]
  · have hc : overOf h who = (h, askOf h who []) := by simp [overOf, hz]
    refine (ask_cn h who).call [(0, [])] (by simp) (by simp (maxSteps := 1000000) [hF, hz, dH]) (by simp (maxSteps := 1000000) [hF, hz, dH]) (by simp (maxSteps := 1000000) [hF, hz, dH]) (by simp) ?_
    rintro av X κ ⟨rfl, rfl, rfl⟩
    generalize hK : VS _ _ _ = KK; simp (maxSteps := 1000000) [hF, hz, dH]; (try subst hK)
    repeat first
      | refine VS.seq ?_
      | (refine VS.keepAt 2 [0, 1, 5] ?_; generalize hK : VS _ _ _ = KK; (try simp); (try subst hK); refine VS.region tabOk (id := 2) [] (by kernel_rfl) ?_; generalize hK : VS _ _ _ = KK; simp (maxSteps := 1000000) [hF, hz]; (try subst hK); try (refine VS.keep [0, 1, 5, 11] ?_; generalize hK : VS _ _ _ = KK; simp; (try subst hK)))
      | (refine VS.keepAt 3 [5] ?_; generalize hK : VS _ _ _ = KK; (try simp); (try subst hK); refine VS.region tabOk (id := 3) [] (by kernel_rfl) ?_; generalize hK : VS _ _ _ = KK; simp (maxSteps := 1000000) [hF, hz]; (try subst hK); try (refine VS.keep [4] ?_; generalize hK : VS _ _ _ = KK; simp; (try subst hK)))
      | (refine VS.cond ?_; generalize hK1 : VS _ _ _ = KK1; generalize hK2 : VS _ _ _ = KK2; simp (maxSteps := 1000000) [hF, hz]; (try subst hK1); (try subst hK2))
    refine VS.widen [(0, [.d])] (by simp [covers, mpre]) ?_
    try refine VS.ret ?_
    repeat first | refine blockN_ret ?_ | refine loopN_ret ?_
    refine endK.of [4] [0] [(0, [.d])] (by simp [hF]) (by simp [covers, mpre]) ?_
    simp [hF, retK, dH, hc]

/- (*cabochon/isolate.House).Share -/
theorem share_ok (h : Hs) (hok : Hok h) (who x : Int) : Meets Try.prog 39 [dH h] (.cons (.ptr 0 [.d]) (.cons (avInt who) (.cons (avInt x) .nil)))
    fun av X κ => av = avInt (shareOf h who x).2 ∧ X = [dH (shareOf h who x).1] ∧ κ = [(0, [.d])] := by
  have hw : IntKind.i64.wrap (-2) = -2 := by decide
  have hw1 : IntKind.i64.wrap (-1) = -1 := by decide
  refine Meets.of_vs tabOk Try.func39 (body := ?_) ?_ (by kernel_rfl) Try.ntmps39 (rs := [.tmp 6]) (by kernel_rfl) rfl (by simp [AV.len]) (by simp only [envOf]; exact rfl) ?_
  rotate_left
  · rfl
  intro w0 I0 F0 hF
  repeat first
    | refine VS.seq ?_
    | (refine VS.keepAt 0 [0, 1, 2] ?_; generalize hK : VS _ _ _ = KK; (try simp); (try subst hK); refine VS.region tabOk (id := 0) [] (by kernel_rfl) ?_; generalize hK : VS _ _ _ = KK; simp (maxSteps := 1000000) [hF]; (try subst hK); try (refine VS.keep [0, 1, 2] ?_; generalize hK : VS _ _ _ = KK; simp; (try subst hK)))
    | (refine VS.keepAt 1 [0, 1, 2] ?_; generalize hK : VS _ _ _ = KK; (try simp); (try subst hK); refine VS.region tabOk (id := 1) [(3, 13), (9, 19), (20, 30)] (by kernel_rfl) ?_; generalize hK : VS _ _ _ = KK; simp (maxSteps := 1000000) [hF]; (try subst hK); try (refine VS.keep [0, 1, 2, 35] ?_; generalize hK : VS _ _ _ = KK; simp; (try subst hK)))
  cases hr : isR h who with
  | false =>
    have hz : askOf h who [x] = 1 := by simp [askOf, hr]
    have hc : shareOf h who x = (h, 1) := by simp [shareOf, hr, hz]
    refine (is_c h who).call [(0, [])] (by simp) (by simp (maxSteps := 1000000) [hF, hr, dH]) (by simp (maxSteps := 1000000) [hF, hr, dH]) (by simp (maxSteps := 1000000) [hF, hr, dH]) (by simp) ?_
    rintro av X κ ⟨rfl, rfl, rfl⟩
    generalize hK : VS _ _ _ = KK; simp (maxSteps := 1000000) [hF, hr, dH]; (try subst hK)
    repeat first
      | refine VS.seq ?_
      | refine VS.skip ?_
      | (refine VS.keepAt 3 [0, 1, 2] ?_; generalize hK : VS _ _ _ = KK; (try simp); (try subst hK); refine VS.region tabOk (id := 3) [] (by kernel_rfl) ?_; generalize hK : VS _ _ _ = KK; simp (maxSteps := 1000000) [hF]; (try subst hK); try (refine VS.keep [0, 2, 7] ?_; generalize hK : VS _ _ _ = KK; simp; (try subst hK)))
      | (refine VS.cond ?_; generalize hK1 : VS _ _ _ = KK1; generalize hK2 : VS _ _ _ = KK2; simp (maxSteps := 1000000) [hF]; (try subst hK1); (try subst hK2))
    refine (ask_c1 h who true x).call [(0, []), (1, [])] (by simp) (by simp (maxSteps := 1000000) [hF, hz, dH]) (by simp (maxSteps := 1000000) [hF, hz, dH]) (by simp (maxSteps := 1000000) [hF, hz, dH]) (by simp) ?_
    rintro av X κ ⟨rfl, rfl, rfl⟩
    generalize hK : VS _ _ _ = KK; simp (maxSteps := 1000000) [hF, hz, dH]; (try subst hK)
    repeat first
      | refine VS.seq ?_
      | (refine VS.keepAt 4 [0, 2, 7] ?_; generalize hK : VS _ _ _ = KK; (try simp); (try subst hK); refine VS.region tabOk (id := 4) [] (by kernel_rfl) ?_; generalize hK : VS _ _ _ = KK; simp (maxSteps := 1000000) [hF, hz]; (try subst hK); try (refine VS.keep [0, 2, 7, 42] ?_; generalize hK : VS _ _ _ = KK; simp; (try subst hK)))
      | (refine VS.keepAt 5 [7] ?_; generalize hK : VS _ _ _ = KK; (try simp); (try subst hK); refine VS.region tabOk (id := 5) [] (by kernel_rfl) ?_; generalize hK : VS _ _ _ = KK; simp (maxSteps := 1000000) [hF, hz]; (try subst hK); try (refine VS.keep [6] ?_; generalize hK : VS _ _ _ = KK; simp; (try subst hK)))
      | (refine VS.cond ?_; generalize hK1 : VS _ _ _ = KK1; generalize hK2 : VS _ _ _ = KK2; simp (maxSteps := 1000000) [hF, hz]; (try subst hK1); (try subst hK2))
    refine VS.widen [(0, [.d])] (by simp [covers, mpre]) ?_
    try refine VS.ret ?_
    repeat first | refine blockN_ret ?_ | refine loopN_ret ?_
    refine endK.of [6] [0] [(0, [.d])] (by simp [hF]) (by simp [covers, mpre]) ?_
    simp [hF, retK, dH, hc]
  | true =>
    refine (is_c h who).call [(0, [])] (by simp) (by simp (maxSteps := 1000000) [hF, hr, dH]) (by simp (maxSteps := 1000000) [hF, hr, dH]) (by simp (maxSteps := 1000000) [hF, hr, dH]) (by simp) ?_
    rintro av X κ ⟨rfl, rfl, rfl⟩
    generalize hK : VS _ _ _ = KK; simp (maxSteps := 1000000) [hF, hr, dH]; (try subst hK)
    cases ht : isT h x with
    | false =>
      have hz : askOf h who [x] = 1 := by simp [askOf, ht]
      have hc : shareOf h who x = (h, 1) := by simp [shareOf, ht, hz]
      refine (has_c1 h true x).call [(0, []), (1, [])] (by simp) (by simp (maxSteps := 1000000) [hF, ht, dH]) (by simp (maxSteps := 1000000) [hF, ht, dH]) (by simp (maxSteps := 1000000) [hF, ht, dH]) (by simp) ?_
      rintro av X κ ⟨rfl, rfl, rfl⟩
      generalize hK : VS _ _ _ = KK; simp (maxSteps := 1000000) [hF, ht, dH]; (try subst hK)
      repeat first
        | refine VS.seq ?_
        | refine VS.skip ?_
        | (refine VS.keepAt 3 [0, 1, 2] ?_; generalize hK : VS _ _ _ = KK; (try simp); (try subst hK); refine VS.region tabOk (id := 3) [] (by kernel_rfl) ?_; generalize hK : VS _ _ _ = KK; simp (maxSteps := 1000000) [hF]; (try subst hK); try (refine VS.keep [0, 2, 7] ?_; generalize hK : VS _ _ _ = KK; simp; (try subst hK)))
        | (refine VS.cond ?_; generalize hK1 : VS _ _ _ = KK1; generalize hK2 : VS _ _ _ = KK2; simp (maxSteps := 1000000) [hF]; (try subst hK1); (try subst hK2))
      refine (ask_c1 h who true x).call [(0, []), (2, [])] (by simp) (by simp (maxSteps := 1000000) [hF, hz, dH]) (by simp (maxSteps := 1000000) [hF, hz, dH]) (by simp (maxSteps := 1000000) [hF, hz, dH]) (by simp) ?_
      rintro av X κ ⟨rfl, rfl, rfl⟩
      generalize hK : VS _ _ _ = KK; simp (maxSteps := 1000000) [hF, hz, dH]; (try subst hK)
      repeat first
        | refine VS.seq ?_
        | (refine VS.keepAt 4 [0, 2, 7] ?_; generalize hK : VS _ _ _ = KK; (try simp); (try subst hK); refine VS.region tabOk (id := 4) [] (by kernel_rfl) ?_; generalize hK : VS _ _ _ = KK; simp (maxSteps := 1000000) [hF, hz]; (try subst hK); try (refine VS.keep [0, 2, 7, 42] ?_; generalize hK : VS _ _ _ = KK; simp; (try subst hK)))
        | (refine VS.keepAt 5 [7] ?_; generalize hK : VS _ _ _ = KK; (try simp); (try subst hK); refine VS.region tabOk (id := 5) [] (by kernel_rfl) ?_; generalize hK : VS _ _ _ = KK; simp (maxSteps := 1000000) [hF, hz]; (try subst hK); try (refine VS.keep [6] ?_; generalize hK : VS _ _ _ = KK; simp; (try subst hK)))
        | (refine VS.cond ?_; generalize hK1 : VS _ _ _ = KK1; generalize hK2 : VS _ _ _ = KK2; simp (maxSteps := 1000000) [hF, hz]; (try subst hK1); (try subst hK2))
      refine VS.widen [(0, [.d])] (by simp [covers, mpre]) ?_
      try refine VS.ret ?_
      repeat first | refine blockN_ret ?_ | refine loopN_ret ?_
      refine endK.of [6] [0] [(0, [.d])] (by simp [hF]) (by simp [covers, mpre]) ?_
      simp [hF, retK, dH, hc]
    | true =>
      obtain ⟨k, rfl, hk⟩ := isT_nat ht
      have hn := dTgs_nth (o := true) hk
      by_cases hg : h.things[k].owner = -2
      · have hz : ¬ askOf h who [(k : Int)] = 0 := fun hz => by
          have h1 := (ask_ok hz).2.2.2 k (by simp)
          have h2 := (ask_ok hz).1
          simp [seesB, hk, hg, isR] at h1 h2
          omega
        have hc : shareOf h who k = (h, askOf h who [(k : Int)]) := by simp [shareOf, ht, hk, hg, hz]
        refine (has_c1 h true k).call [(0, []), (1, [])] (by simp) (by simp (maxSteps := 1000000) [hF, ht, dH, hn, hk, hg, hw]) (by simp (maxSteps := 1000000) [hF, ht, dH, hn, hk, hg, hw]) (by simp (maxSteps := 1000000) [hF, ht, dH, hn, hk, hg, hw]) (by simp) ?_
        rintro av X κ ⟨rfl, rfl, rfl⟩
        generalize hK : VS _ _ _ = KK; simp (maxSteps := 1000000) [hF, ht, dH, hn, hk, hg, hw]; (try subst hK)
        repeat first
          | refine VS.seq ?_
          | refine VS.skip ?_
          | (refine VS.keepAt 3 [0, 1, 2] ?_; generalize hK : VS _ _ _ = KK; (try simp); (try subst hK); refine VS.region tabOk (id := 3) [] (by kernel_rfl) ?_; generalize hK : VS _ _ _ = KK; simp (maxSteps := 1000000) [hF, hn, hk, hg]; (try subst hK); try (refine VS.keep [0, 2, 7] ?_; generalize hK : VS _ _ _ = KK; simp; (try subst hK)))
          | (refine VS.cond ?_; generalize hK1 : VS _ _ _ = KK1; generalize hK2 : VS _ _ _ = KK2; simp (maxSteps := 1000000) [hF, hn, hk, hg]; (try subst hK1); (try subst hK2))
        refine (ask_c1 h who true k).call [(0, []), (2, [])] (by simp) (by simp (maxSteps := 1000000) [hF, hz, dH]) (by simp (maxSteps := 1000000) [hF, hz, dH]) (by simp (maxSteps := 1000000) [hF, hz, dH]) (by simp) ?_
        rintro av X κ ⟨rfl, rfl, rfl⟩
        generalize hK : VS _ _ _ = KK; simp (maxSteps := 1000000) [hF, hz, dH]; (try subst hK)
        repeat first
          | refine VS.seq ?_
          | (refine VS.keepAt 4 [0, 2, 7] ?_; generalize hK : VS _ _ _ = KK; (try simp); (try subst hK); refine VS.region tabOk (id := 4) [] (by kernel_rfl) ?_; generalize hK : VS _ _ _ = KK; simp (maxSteps := 1000000) [hF, hz]; (try subst hK); try (refine VS.keep [0, 2, 7, 42] ?_; generalize hK : VS _ _ _ = KK; simp; (try subst hK)))
          | (refine VS.keepAt 5 [7] ?_; generalize hK : VS _ _ _ = KK; (try simp); (try subst hK); refine VS.region tabOk (id := 5) [] (by kernel_rfl) ?_; generalize hK : VS _ _ _ = KK; simp (maxSteps := 1000000) [hF, hz]; (try subst hK); try (refine VS.keep [6] ?_; generalize hK : VS _ _ _ = KK; simp; (try subst hK)))
          | (refine VS.cond ?_; generalize hK1 : VS _ _ _ = KK1; generalize hK2 : VS _ _ _ = KK2; simp (maxSteps := 1000000) [hF, hz]; (try subst hK1); (try subst hK2))
        refine VS.widen [(0, [.d])] (by simp [covers, mpre]) ?_
        try refine VS.ret ?_
        repeat first | refine blockN_ret ?_ | refine loopN_ret ?_
        refine endK.of [6] [0] [(0, [.d])] (by simp [hF]) (by simp [covers, mpre]) ?_
        simp [hF, retK, dH, hc]
      · refine (has_c1 h true k).call [(0, []), (1, [])] (by simp) (by simp (maxSteps := 1000000) [hF, ht, dH, hn, hk, hg, hw]) (by simp (maxSteps := 1000000) [hF, ht, dH, hn, hk, hg, hw]) (by simp (maxSteps := 1000000) [hF, ht, dH, hn, hk, hg, hw]) (by simp) ?_
        rintro av X κ ⟨rfl, rfl, rfl⟩
        generalize hK : VS _ _ _ = KK; simp (maxSteps := 1000000) [hF, ht, dH, hn, hk, hg, hw]; (try subst hK)
        cases hsb : shbl h.things (k : Int) with
        | false =>
          have hc : shareOf h who k = (h, 1) := by simp [shareOf, hr, ht, hk, hg, hsb]
          refine (shareable_c h hok k hk).call [(0, [])] (by simp) (by simp (maxSteps := 1000000) [hF, hsb, dH]) (by simp (maxSteps := 1000000) [hF, hsb, dH]) (by simp (maxSteps := 1000000) [hF, hsb, dH]) (by simp) ?_
          rintro av X κ ⟨rfl, rfl, rfl⟩
          generalize hK : VS _ _ _ = KK; simp (maxSteps := 1000000) [hF, hsb, dH]; (try subst hK)
          repeat first
            | refine VS.seq ?_
            | (refine VS.keepAt 2 [] ?_; generalize hK : VS _ _ _ = KK; (try simp); (try subst hK); refine VS.region tabOk (id := 2) [] (by kernel_rfl) ?_; generalize hK : VS _ _ _ = KK; simp (maxSteps := 1000000) [hF, hsb]; (try subst hK); try (refine VS.keep [6] ?_; generalize hK : VS _ _ _ = KK; simp; (try subst hK)))
            | (refine VS.cond ?_; generalize hK1 : VS _ _ _ = KK1; generalize hK2 : VS _ _ _ = KK2; simp (maxSteps := 1000000) [hF, hsb]; (try subst hK1); (try subst hK2))
          refine VS.widen [(0, [.d])] (by simp [covers, mpre]) ?_
          try refine VS.ret ?_
          repeat first | refine blockN_ret ?_ | refine loopN_ret ?_
          refine endK.of [6] [0] [(0, [.d])] (by simp [hF]) (by simp [covers, mpre]) ?_
          simp [hF, retK, dH, hc]
        | true =>
          refine (shareable_c h hok k hk).call [(0, [])] (by simp) (by simp (maxSteps := 1000000) [hF, hsb, dH]) (by simp (maxSteps := 1000000) [hF, hsb, dH]) (by simp (maxSteps := 1000000) [hF, hsb, dH]) (by simp) ?_
          rintro av X κ ⟨rfl, rfl, rfl⟩
          generalize hK : VS _ _ _ = KK; simp (maxSteps := 1000000) [hF, hsb, dH]; (try subst hK)
          repeat first
            | refine VS.seq ?_
            | refine VS.skip ?_
            | (refine VS.keepAt 3 [0, 1, 2] ?_; generalize hK : VS _ _ _ = KK; (try simp); (try subst hK); refine VS.region tabOk (id := 3) [] (by kernel_rfl) ?_; generalize hK : VS _ _ _ = KK; simp (maxSteps := 1000000) [hF, hsb]; (try subst hK); try (refine VS.keep [0, 2, 7] ?_; generalize hK : VS _ _ _ = KK; simp; (try subst hK)))
            | (refine VS.cond ?_; generalize hK1 : VS _ _ _ = KK1; generalize hK2 : VS _ _ _ = KK2; simp (maxSteps := 1000000) [hF, hsb]; (try subst hK1); (try subst hK2))
          by_cases hz : askOf h who [(k : Int)] = 0
          · have hc : shareOf h who k = ({ h with things := paint shareF (reachA h.things k) h.things }, 0) := by simp [shareOf, hr, ht, hk, hg, hsb, hz]
            have hrl := reach_len hok hk
            refine (ask_c1 h who true k).call [(0, []), (2, [])] (by simp) (by simp (maxSteps := 1000000) [hF, hz, dH]) (by simp (maxSteps := 1000000) [hF, hz, dH]) (by simp (maxSteps := 1000000) [hF, hz, dH]) (by simp) ?_
            rintro av X κ ⟨rfl, rfl, rfl⟩
            generalize hK : VS _ _ _ = KK; simp (maxSteps := 1000000) [hF, hz, dH]; (try subst hK)
            repeat first
              | refine VS.seq ?_
              | refine VS.skip ?_
              | (refine VS.keepAt 4 [0, 2, 7] ?_; generalize hK : VS _ _ _ = KK; (try simp); (try subst hK); refine VS.region tabOk (id := 4) [] (by kernel_rfl) ?_; generalize hK : VS _ _ _ = KK; simp (maxSteps := 1000000) [hF, hz]; (try subst hK); try (refine VS.keep [0, 2, 7, 42] ?_; generalize hK : VS _ _ _ = KK; simp; (try subst hK)))
              | (refine VS.keepAt 6 [0, 2] ?_; generalize hK : VS _ _ _ = KK; (try simp); (try subst hK); refine VS.region tabOk (id := 6) [] (by kernel_rfl) ?_; generalize hK : VS _ _ _ = KK; simp (maxSteps := 1000000) [hF, hz]; (try subst hK); try (refine VS.keep [0, 46, 47, 48] ?_; generalize hK : VS _ _ _ = KK; simp; (try subst hK)))
              | (refine VS.cond ?_; generalize hK1 : VS _ _ _ = KK1; generalize hK2 : VS _ _ _ = KK2; simp (maxSteps := 1000000) [hF, hz]; (try subst hK1); (try subst hK2))
            refine (reach_c h hok k hk).call [(0, [])] (by simp) (by simp (maxSteps := 1000000) [hF, dH]) (by simp (maxSteps := 1000000) [hF, dH]) (by simp (maxSteps := 1000000) [hF, dH]) (by simp) ?_
            rintro av X κ ⟨rfl, rfl, rfl⟩
            generalize hK : VS _ _ _ = KK; simp (maxSteps := 1000000) [hF, dH]; (try subst hK)
            repeat first
              | refine VS.block ?_
            refine VS.cool 46 (by simp (maxSteps := 1000000) [hF]) ?_
            generalize hK : VS _ _ _ = KK; simp [hF, St.cool]; (try subst hK)
            refine VS.widen [(0, [.d])] (by simp [covers, mpre]) ?_
            refine VS.pick [0, 46, 47, 48] [0] (by simp [hF]) ?_
            generalize hK : VS _ _ _ = KK; simp [hF]; (try subst hK)
            have hLv : ∀ i, (hi : i < (reachA h.things (k : Int)).length) → ∃ y : Nat, (reachA h.things (k : Int))[i] = y ∧ y < h.things.length := fun i hi => reach_nat hok hk hi
            generalize hL : reachA h.things (k : Int) = L at *
            refine VS.rounds (fun m st => ∃ (i : Nat) (P : List Tg), i + m = L.length ∧ P = paint shareF (L.take i) h.things ∧ st = ⟨[(0, .ptr 0 [.d]), (46, .imm 1 (dInts L) false), (47, avInt L.length), (48, avInt i)], [dH { h with things := P }], [(0, [.d])], []⟩) ⟨L.length, 0, h.things, by omega, by simp [paint_nil], by simp [dH]⟩ ?_
            rintro m st ⟨i, P, hi, hP, rfl⟩
            have hPl : P.length = h.things.length := by simp [hP]
            repeat first
              | refine VS.seq ?_
              | (refine VS.keepAt 7 [0, 46, 47, 48] ?_; generalize hK : VS _ _ _ = KK; (try simp); (try subst hK); refine VS.region tabOk (id := 7) [] (by kernel_rfl) ?_; generalize hK : VS _ _ _ = KK; simp (maxSteps := 1000000) [hF]; (try subst hK); try (refine VS.keep [0, 46, 47, 48, 49] ?_; generalize hK : VS _ _ _ = KK; simp; (try subst hK)))
              | (refine VS.cond ?_; generalize hK1 : VS _ _ _ = KK1; generalize hK2 : VS _ _ _ = KK2; simp (maxSteps := 1000000) [hF]; (try subst hK1); (try subst hK2))
            refine ⟨fun hlt => ?_, fun hge => ?_⟩
            · obtain ⟨y, hy, hyl⟩ := hLv i hlt
              have hyP : y < P.length := by omega
              have hn2 := dTgs_nth (o := true) hyP
              have hin : (dInts L).nth i = .val (.int .i64 y) := by rw [dInts_nth hlt, hy]
              have hw2 : IntKind.i64.wrap ((i : Int) + 1) = (i + 1 : Nat) := by rw [IntWalk.i64_in _ (by omega)]; rfl
              have hset := dTgs_set true P y ⟨-1, P[y].list, P[y].word, P[y].items, true⟩
              have hst : P.set y ⟨-1, P[y].list, P[y].word, P[y].items, true⟩ = paint shareF (L.take (i + 1)) h.things := by
                have e : L.take (i + 1) = L.take i ++ [(y : Int)] := by rw [List.take_add_one, List.getElem?_eq_getElem hlt, hy]; rfl
                rw [e, ← paint_step (f := shareF) (fun _ => rfl) hyl]
                subst hP; rfl
              have hpos : y < h.things.length := hyl
              repeat first
                | refine VS.seq ?_
                | refine VS.skip ?_
                | refine VS.block ?_
                | refine VS.nil ?_
                | refine blockN_normal ?_
                | refine loopN_normal ?_
                | (refine VS.keepAt 8 [0, 46, 47, 48] ?_; generalize hK : VS _ _ _ = KK; (try simp); (try subst hK); refine VS.region tabOk (id := 8) [] (by kernel_rfl) ?_; generalize hK : VS _ _ _ = KK; simp (maxSteps := 1000000) [hF, hin, hlt, dH, hn2, hyP, hpos, hset, hw1, hw2, T.nth_setN_same]; (try subst hK); try (refine VS.keep [0, 9, 46, 47, 48] ?_; generalize hK : VS _ _ _ = KK; simp; (try subst hK)))
                | (refine VS.keepAt 9 [0, 9, 46, 47, 48] ?_; generalize hK : VS _ _ _ = KK; (try simp); (try subst hK); refine VS.drawn tabOk mixedOk (id := 9) [] [⟨0, 1, 4503599627370496, 5⟩, ⟨1, 4503599627370496, 9007199254740992, 5⟩, ⟨2, 9007199254740992, 18014398509481984, 5⟩, ⟨4, 18014398509481984, 36028797018963968, 6⟩, ⟨0, 512, 72057594037927936, 5⟩, ⟨0, 1, 144115188075855872, 5⟩, ⟨32, 144115188075855872, 288230376151711744, 5⟩, ⟨64, 288230376151711744, 576460752303423488, 5⟩, ⟨128, 576460752303423488, 1152921504606846976, 6⟩, ⟨0, 512, 2305843009213693952, 5⟩, ⟨287, 108086391056891904, 4611686018427387904, 5⟩, ⟨1311, 4611686018427387904, 9223372036854775808, 5⟩, ⟨2335, 9223372036854775808, 0, 0⟩, ⟨8191, 3458764513820540928, 18446744073709551616, 5⟩, ⟨16383, 18446744073709551616, 36893488147419103232, 5⟩, ⟨24575, 36893488147419103232, 0, 0⟩] (.take 0 (.take 1 (.take 2 (.take 3 (.take 4 (.take 5 (.take 6 (.take 7 (.take 8 (.take 9 (.take 10 (.take 11 (.fork (.alt 12 (.take 13 (.take 14 (.fork (.alt 15 (.done) (.nil))))) (.nil))))))))))))))) (.run [0, 1, 2, 3, 4, 5, 6, 7, 8, 9, 10, 11, 12, 13, 14, 15] (.done)) (by kernel_rfl) (by kernel_rfl) (by kernel_rfl) ?_; generalize hK : VS _ _ _ = KK; simp only [opsVc_run, opsVc_both, opsVc_chk, opsVc_done, opsVc_yes, pick_cons, pick_nil, List.getElem?_cons_zero, List.getElem?_cons_succ]; simp (maxSteps := 1000000) [hF, hin, hlt, dH, hn2, hyP, hpos, hset, hw1, hw2, T.nth_setN_same]; (try subst hK); try (refine VS.keep [0, 46, 47, 48] ?_; generalize hK : VS _ _ _ = KK; simp; (try subst hK)))
                | (refine VS.keepAt 10 [0, 46, 47, 48] ?_; generalize hK : VS _ _ _ = KK; (try simp); (try subst hK); refine VS.region tabOk (id := 10) [] (by kernel_rfl) ?_; generalize hK : VS _ _ _ = KK; simp (maxSteps := 1000000) [hF, hin, hlt, dH, hn2, hyP, hpos, hset, hw1, hw2, T.nth_setN_same]; (try subst hK); try (refine VS.keep [0, 46, 47, 48] ?_; generalize hK : VS _ _ _ = KK; simp; (try subst hK)))
              refine nextK.of [0, 46, 47, 48] [0] (m - 1) (by omega) (by simp [hF]) ?_
              refine ⟨i + 1, _, by omega, hst, ?_⟩
              simp [dH]
            · have hPf : P = paint shareF L h.things := by rw [hP, List.take_of_length_le (by omega)]
              repeat first
                | refine VS.seq ?_
                | refine VS.exit ?_
                | (refine VS.keepAt 11 [] ?_; generalize hK : VS _ _ _ = KK; (try simp); (try subst hK); refine VS.region tabOk (id := 11) [] (by kernel_rfl) ?_; generalize hK : VS _ _ _ = KK; simp (maxSteps := 1000000) [hF]; (try subst hK); try (refine VS.keep [6] ?_; generalize hK : VS _ _ _ = KK; simp; (try subst hK)))
              try refine VS.ret ?_
              repeat first | refine blockN_ret ?_ | refine loopN_ret ?_
              refine endK.of [6] [0] [(0, [.d])] (by simp [hF]) (by simp [covers, mpre]) ?_
              simp [hF, retK, dH, hc, hPf]
          · have hc : shareOf h who k = (h, askOf h who [(k : Int)]) := by simp [shareOf, hr, ht, hk, hg, hsb, hz]
            refine (ask_c1 h who true k).call [(0, []), (2, [])] (by simp) (by simp (maxSteps := 1000000) [hF, hz, dH]) (by simp (maxSteps := 1000000) [hF, hz, dH]) (by simp (maxSteps := 1000000) [hF, hz, dH]) (by simp) ?_
            rintro av X κ ⟨rfl, rfl, rfl⟩
            generalize hK : VS _ _ _ = KK; simp (maxSteps := 1000000) [hF, hz, dH]; (try subst hK)
            repeat first
              | refine VS.seq ?_
              | (refine VS.keepAt 4 [0, 2, 7] ?_; generalize hK : VS _ _ _ = KK; (try simp); (try subst hK); refine VS.region tabOk (id := 4) [] (by kernel_rfl) ?_; generalize hK : VS _ _ _ = KK; simp (maxSteps := 1000000) [hF, hz]; (try subst hK); try (refine VS.keep [0, 2, 7, 42] ?_; generalize hK : VS _ _ _ = KK; simp; (try subst hK)))
              | (refine VS.keepAt 5 [7] ?_; generalize hK : VS _ _ _ = KK; (try simp); (try subst hK); refine VS.region tabOk (id := 5) [] (by kernel_rfl) ?_; generalize hK : VS _ _ _ = KK; simp (maxSteps := 1000000) [hF, hz]; (try subst hK); try (refine VS.keep [6] ?_; generalize hK : VS _ _ _ = KK; simp; (try subst hK)))
              | (refine VS.cond ?_; generalize hK1 : VS _ _ _ = KK1; generalize hK2 : VS _ _ _ = KK2; simp (maxSteps := 1000000) [hF, hz]; (try subst hK1); (try subst hK2))
            refine VS.widen [(0, [.d])] (by simp [covers, mpre]) ?_
            try refine VS.ret ?_
            repeat first | refine blockN_ret ?_ | refine loopN_ret ?_
            refine endK.of [6] [0] [(0, [.d])] (by simp [hF]) (by simp [covers, mpre]) ?_
            simp [hF, retK, dH, hc]
end Go.Proofs.Ytkkbcpcihadkhaa

/- A thing moves. -/
namespace Go.Proofs.Ytkkbcpcihadkhaa
set_option linter.all false
open Go.Vc Go.Proofs
set_option linter.unusedSimpArgs false
set_option linter.unusedVariables false
set_option maxRecDepth 100000
set_option maxHeartbeats 4000000
attribute [local irreducible] CallW EqK

theorem sends_eq {h : Hs} {who to x : Int} (hz : sendsOf h who to x = 0) : isR h who = true ∧ isR h to = true ∧ isT h x = true ∧ (gr h.rooms to).queue.length < 50 ∧ seesB h who x = true := by
  unfold sendsOf at hz
  split at hz
  · cases hz
  · rename_i h1
    split at hz
    · cases hz
    · split at hz
      · cases hz
      · rename_i h3
        split at hz
        · cases hz
        · rename_i h4
          simp only [not_or, Bool.not_eq_false] at h1 h3
          exact ⟨h1.1, h1.2.1, h1.2.2, by omega, h3⟩
theorem own_len {h : Hs} (hok : Hok h) {x : Nat} (hx : x < h.things.length) : (ownA h.things x).length ≤ 400 := Nat.le_trans (List.length_filter_le _ _) (reach_len hok hx)
theorem own_nat {h : Hs} (hok : Hok h) {x : Nat} (hx : x < h.things.length) {i : Nat} (hi : i < (ownA h.things x).length) : ∃ k : Nat, (ownA h.things x)[i] = k ∧ k < h.things.length := by
  have hm : (ownA h.things x)[i] ∈ reachA h.things x := (List.mem_filter.1 (List.getElem_mem hi)).1
  have := reachA_valid hok.items (x := x) ⟨by omega, by omega⟩ _ hm
  exact ⟨(ownA h.things x)[i].toNat, by omega, by omega⟩

/- (*cabochon/isolate.House).Move -/
theorem move_ok (h : Hs) (hok : Hok h) (who to x : Int) : Meets Try.prog 18 [dH h] (.cons (.ptr 0 [.d]) (.cons (avInt who) (.cons (avInt to) (.cons (avInt x) .nil))))
    fun av X κ => av = avInt (moveOf h who to x).2 ∧ X = [dH (moveOf h who to x).1] ∧ κ = [(0, [.d])] := by
  refine Meets.of_vs tabOk Try.func18 (body := ?_) ?_ (by kernel_rfl) Try.ntmps18 (rs := [.tmp 8]) (by kernel_rfl) rfl (by simp [AV.len]) (by simp only [envOf]; exact rfl) ?_
  rotate_left
  · rfl
  intro w0 I0 F0 hF
  repeat first
    | refine VS.seq ?_
    | (refine VS.keepAt 0 [0, 1, 2, 3] ?_; generalize hK : VS _ _ _ = KK; (try simp); (try subst hK); refine VS.region tabOk (id := 0) [] (by kernel_rfl) ?_; generalize hK : VS _ _ _ = KK; simp (maxSteps := 1000000) [hF]; (try subst hK); try (refine VS.keep [0, 1, 2, 3] ?_; generalize hK : VS _ _ _ = KK; simp; (try subst hK)))
    | (refine VS.keepAt 1 [0, 1, 2, 3] ?_; generalize hK : VS _ _ _ = KK; (try simp); (try subst hK); refine VS.region tabOk (id := 1) [(3, 15), (8, 20), (14, 26), (26, 38)] (by kernel_rfl) ?_; generalize hK : VS _ _ _ = KK; simp (maxSteps := 1000000) [hF]; (try subst hK); try (refine VS.keep [0, 1, 2, 3, 45] ?_; generalize hK : VS _ _ _ = KK; simp; (try subst hK)))
  by_cases hv : isR h who = true ∧ isR h to = true ∧ isT h x = true
  · obtain ⟨v1, v2, v3⟩ := hv
    obtain ⟨w, rfl, hwl⟩ := isR_nat v1
    obtain ⟨t, rfl, htl⟩ := isR_nat v2
    obtain ⟨k, rfl, hk⟩ := isT_nat v3
    have hn := dTgs_nth (o := true) hk
    refine (is_c h w).call [(0, [])] (by simp) (by simp (maxSteps := 1000000) [hF, v1, dH]) (by simp (maxSteps := 1000000) [hF, v1, dH]) (by simp (maxSteps := 1000000) [hF, v1, dH]) (by simp) ?_
    rintro av X κ ⟨rfl, rfl, rfl⟩
    generalize hK : VS _ _ _ = KK; simp (maxSteps := 1000000) [hF, v1, dH]; (try subst hK)
    refine (is_c h t).call [(0, [])] (by simp) (by simp (maxSteps := 1000000) [hF, v2, dH]) (by simp (maxSteps := 1000000) [hF, v2, dH]) (by simp (maxSteps := 1000000) [hF, v2, dH]) (by simp) ?_
    rintro av X κ ⟨rfl, rfl, rfl⟩
    generalize hK : VS _ _ _ = KK; simp (maxSteps := 1000000) [hF, v2, dH]; (try subst hK)
    by_cases ho : h.things[k].owner = w
    · refine (has_c1 h true k).call [(0, []), (1, [])] (by simp) (by simp (maxSteps := 1000000) [hF, v3, dH, hn, hk, ho]) (by simp (maxSteps := 1000000) [hF, v3, dH, hn, hk, ho]) (by simp (maxSteps := 1000000) [hF, v3, dH, hn, hk, ho]) (by simp) ?_
      rintro av X κ ⟨rfl, rfl, rfl⟩
      generalize hK : VS _ _ _ = KK; simp (maxSteps := 1000000) [hF, v3, dH, hn, hk, ho]; (try subst hK)
      have hol := own_len hok hk
      refine (own_c h hok k hk).call [(0, [])] (by simp) (by simp (maxSteps := 1000000) [hF, dH]) (by simp (maxSteps := 1000000) [hF, dH]) (by simp (maxSteps := 1000000) [hF, dH]) (by simp) ?_
      rintro av X κ ⟨z, rfl, rfl, rfl⟩
      generalize hK : VS _ _ _ = KK; simp (maxSteps := 1000000) [hF, dH]; (try subst hK)
      cases htd : tiedOf h w (ownA h.things k) with
      | true =>
        have hc : moveOf h w t k = (h, 1) := by simp [moveOf, v1, v2, v3, hk, ho, htd]
        refine (tied_c h hok w hwl (ownA h.things k) z false hol).call [(0, []), (2, [])] (by simp) (by simp (maxSteps := 1000000) [hF, dH, htd]) (by simp (maxSteps := 1000000) [hF, dH, htd]) (by simp (maxSteps := 1000000) [hF, dH, htd]) (by simp) ?_
        rintro av X κ ⟨rfl, rfl, rfl⟩
        generalize hK : VS _ _ _ = KK; simp (maxSteps := 1000000) [hF, dH, htd]; (try subst hK)
        repeat first
          | refine VS.seq ?_
          | (refine VS.keepAt 2 [] ?_; generalize hK : VS _ _ _ = KK; (try simp); (try subst hK); refine VS.region tabOk (id := 2) [] (by kernel_rfl) ?_; generalize hK : VS _ _ _ = KK; simp (maxSteps := 1000000) [hF, htd]; (try subst hK); try (refine VS.keep [8] ?_; generalize hK : VS _ _ _ = KK; simp; (try subst hK)))
          | (refine VS.cond ?_; generalize hK1 : VS _ _ _ = KK1; generalize hK2 : VS _ _ _ = KK2; simp (maxSteps := 1000000) [hF, htd]; (try subst hK1); (try subst hK2))
        refine VS.widen [(0, [.d])] (by simp [covers, mpre]) ?_
        try refine VS.ret ?_
        repeat first | refine blockN_ret ?_ | refine loopN_ret ?_
        refine endK.of [8] [0] [(0, [.d])] (by simp [hF]) (by simp [covers, mpre]) ?_
        simp [hF, retK, dH, hc]
      | false =>
        refine (tied_c h hok w hwl (ownA h.things k) z false hol).call [(0, []), (2, [])] (by simp) (by simp (maxSteps := 1000000) [hF, dH, htd]) (by simp (maxSteps := 1000000) [hF, dH, htd]) (by simp (maxSteps := 1000000) [hF, dH, htd]) (by simp) ?_
        rintro av X κ ⟨rfl, rfl, rfl⟩
        generalize hK : VS _ _ _ = KK; simp (maxSteps := 1000000) [hF, dH, htd]; (try subst hK)
        repeat first
          | refine VS.seq ?_
          | refine VS.skip ?_
          | (refine VS.keepAt 3 [0, 1, 2, 3] ?_; generalize hK : VS _ _ _ = KK; (try simp); (try subst hK); refine VS.region tabOk (id := 3) [] (by kernel_rfl) ?_; generalize hK : VS _ _ _ = KK; simp (maxSteps := 1000000) [hF]; (try subst hK); try (refine VS.keep [0, 2, 3, 9] ?_; generalize hK : VS _ _ _ = KK; simp; (try subst hK)))
          | (refine VS.cond ?_; generalize hK1 : VS _ _ _ = KK1; generalize hK2 : VS _ _ _ = KK2; simp (maxSteps := 1000000) [hF]; (try subst hK1); (try subst hK2))
        refine (sends_c h w t k).call [(0, [])] (by simp) (by simp (maxSteps := 1000000) [hF, dH]) (by simp (maxSteps := 1000000) [hF, dH]) (by simp (maxSteps := 1000000) [hF, dH]) (by simp) ?_
        rintro av X κ ⟨rfl, rfl, rfl⟩
        generalize hK : VS _ _ _ = KK; simp (maxSteps := 1000000) [hF, dH]; (try subst hK)
        by_cases hz : sendsOf h w t k = 0
        · have hc : moveOf h w t k = (putOf { h with things := paint (ownF t) (ownA h.things k) h.things } t k, 0) := by simp [moveOf, hz, htd]
          repeat first
            | refine VS.seq ?_
            | refine VS.skip ?_
            | (refine VS.keepAt 4 [0, 2, 3, 9] ?_; generalize hK : VS _ _ _ = KK; (try simp); (try subst hK); refine VS.region tabOk (id := 4) [] (by kernel_rfl) ?_; generalize hK : VS _ _ _ = KK; simp (maxSteps := 1000000) [hF, hz]; (try subst hK); try (refine VS.keep [0, 2, 3, 9, 52] ?_; generalize hK : VS _ _ _ = KK; simp; (try subst hK)))
            | (refine VS.keepAt 6 [0, 2, 3] ?_; generalize hK : VS _ _ _ = KK; (try simp); (try subst hK); refine VS.region tabOk (id := 6) [] (by kernel_rfl) ?_; generalize hK : VS _ _ _ = KK; simp (maxSteps := 1000000) [hF, hz]; (try subst hK); try (refine VS.keep [0, 2, 3, 56, 57, 58] ?_; generalize hK : VS _ _ _ = KK; simp; (try subst hK)))
            | (refine VS.cond ?_; generalize hK1 : VS _ _ _ = KK1; generalize hK2 : VS _ _ _ = KK2; simp (maxSteps := 1000000) [hF, hz]; (try subst hK1); (try subst hK2))
          refine (own_c h hok k hk).call [(0, [])] (by simp) (by simp (maxSteps := 1000000) [hF, dH]) (by simp (maxSteps := 1000000) [hF, dH]) (by simp (maxSteps := 1000000) [hF, dH]) (by simp) ?_
          rintro av X κ ⟨z2, rfl, rfl, rfl⟩
          generalize hK : VS _ _ _ = KK; simp (maxSteps := 1000000) [hF, dH]; (try subst hK)
          repeat first
            | refine VS.block ?_
          have hcm : (dInts (ownA h.things k ++ z2)).mid 0 (ownA h.things k).length = dInts (ownA h.things k) := by rw [dInts_mid]; simp
          refine VS.cool 56 (by simp (maxSteps := 1000000) [hF, hcm]) ?_
          generalize hK : VS _ _ _ = KK; simp [hF, St.cool, hcm]; (try subst hK)
          refine VS.widen [(0, [.d])] (by simp [covers, mpre]) ?_
          refine VS.pick [0, 2, 3, 56, 57, 58] [0] (by simp [hF]) ?_
          generalize hK : VS _ _ _ = KK; simp [hF]; (try subst hK)
          have hq50 := (sends_eq hz).2.2.2.1
          have hLv : ∀ i, (hi : i < (ownA h.things (k : Int)).length) → ∃ y : Nat, (ownA h.things (k : Int))[i] = y ∧ y < h.things.length := fun i hi => own_nat hok hk hi
          have hol2 := own_len hok hk
          generalize hL : ownA h.things (k : Int) = L at *
          refine VS.rounds (fun m st => ∃ (i : Nat) (P : List Tg), i + m = L.length ∧ P = paint (ownF t) (L.take i) h.things ∧ st = ⟨[(0, .ptr 0 [.d]), (2, avInt t), (3, avInt k), (56, .imm 1 (dInts L) false), (57, avInt L.length), (58, avInt i)], [dH { h with things := P }], [(0, [.d])], []⟩) ⟨L.length, 0, h.things, by omega, by simp [paint_nil], by simp [dH]⟩ ?_
          rintro m st ⟨i, P, hi, hP, rfl⟩
          have hPl : P.length = h.things.length := by simp [hP]
          repeat first
            | refine VS.seq ?_
            | (refine VS.keepAt 7 [0, 2, 3, 56, 57, 58] ?_; generalize hK : VS _ _ _ = KK; (try simp); (try subst hK); refine VS.region tabOk (id := 7) [] (by kernel_rfl) ?_; generalize hK : VS _ _ _ = KK; simp (maxSteps := 1000000) [hF]; (try subst hK); try (refine VS.keep [0, 2, 3, 56, 57, 58, 59] ?_; generalize hK : VS _ _ _ = KK; simp; (try subst hK)))
            | (refine VS.cond ?_; generalize hK1 : VS _ _ _ = KK1; generalize hK2 : VS _ _ _ = KK2; simp (maxSteps := 1000000) [hF]; (try subst hK1); (try subst hK2))
          refine ⟨fun hlt => ?_, fun hge => ?_⟩
          · obtain ⟨y, hy, hyl⟩ := hLv i hlt
            have hyP : y < P.length := by omega
            have hn2 := dTgs_nth (o := true) hyP
            have hin : (dInts L).nth i = .val (.int .i64 y) := by rw [dInts_nth hlt, hy]
            have hw2 : IntKind.i64.wrap ((i : Int) + 1) = (i + 1 : Nat) := by rw [IntWalk.i64_in _ (by omega)]; rfl
            have hset := dTgs_set true P y ⟨t, P[y].list, P[y].word, P[y].items, P[y].frozen⟩
            have hst : P.set y ⟨t, P[y].list, P[y].word, P[y].items, P[y].frozen⟩ = paint (ownF t) (L.take (i + 1)) h.things := by
              have e : L.take (i + 1) = L.take i ++ [(y : Int)] := by rw [List.take_add_one, List.getElem?_eq_getElem hlt, hy]; rfl
              rw [e, ← paint_step (f := ownF t) (fun _ => rfl) hyl]
              subst hP; rfl
            repeat first
              | refine VS.seq ?_
              | refine VS.skip ?_
              | refine VS.block ?_
              | refine VS.nil ?_
              | refine blockN_normal ?_
              | refine loopN_normal ?_
              | (refine VS.keepAt 8 [0, 2, 3, 56, 57, 58] ?_; generalize hK : VS _ _ _ = KK; (try simp); (try subst hK); refine VS.region tabOk (id := 8) [] (by kernel_rfl) ?_; generalize hK : VS _ _ _ = KK; simp (maxSteps := 1000000) [hF, hin, hlt, dH, hn2, hyP, hyl, hset, hw2]; (try subst hK); try (refine VS.keep [0, 2, 3, 11, 56, 57, 58] ?_; generalize hK : VS _ _ _ = KK; simp; (try subst hK)))
              | (refine VS.keepAt 9 [0, 2, 3, 11, 56, 57, 58] ?_; generalize hK : VS _ _ _ = KK; (try simp); (try subst hK); refine VS.region tabOk (id := 9) [] (by kernel_rfl) ?_; generalize hK : VS _ _ _ = KK; simp (maxSteps := 1000000) [hF, hin, hlt, dH, hn2, hyP, hyl, hset, hw2]; (try subst hK); try (refine VS.keep [0, 2, 3, 56, 57, 58] ?_; generalize hK : VS _ _ _ = KK; simp; (try subst hK)))
              | (refine VS.keepAt 10 [0, 2, 3, 56, 57, 58] ?_; generalize hK : VS _ _ _ = KK; (try simp); (try subst hK); refine VS.region tabOk (id := 10) [] (by kernel_rfl) ?_; generalize hK : VS _ _ _ = KK; simp (maxSteps := 1000000) [hF, hin, hlt, dH, hn2, hyP, hyl, hset, hw2]; (try subst hK); try (refine VS.keep [0, 2, 3, 56, 57, 58] ?_; generalize hK : VS _ _ _ = KK; simp; (try subst hK)))
            refine nextK.of [0, 2, 3, 56, 57, 58] [0] (m - 1) (by omega) (by simp [hF]) ?_
            refine ⟨i + 1, _, by omega, hst, ?_⟩
            simp [dH]
          · have hPf : P = paint (ownF t) L h.things := by rw [hP, List.take_of_length_le (by omega)]
            rw [gr_at htl] at hq50
            repeat first
              | refine VS.seq ?_
              | refine VS.exit ?_
              | (refine VS.keepAt 11 [0, 2, 3] ?_; generalize hK : VS _ _ _ = KK; (try simp); (try subst hK); refine VS.region tabOk (id := 11) [] (by kernel_rfl) ?_; generalize hK : VS _ _ _ = KK; simp (maxSteps := 1000000) [hF]; (try subst hK); try (refine VS.keep [] ?_; generalize hK : VS _ _ _ = KK; simp; (try subst hK)))
            refine (put_ok { h with things := P } t k htl (by simp only; omega)).call [(0, [])] (by simp) (by simp (maxSteps := 1000000) [hF, dH]) (by simp (maxSteps := 1000000) [hF, dH]) (by simp (maxSteps := 1000000) [hF, dH]) (by simp) ?_
            rintro av X κ ⟨rfl, rfl⟩
            generalize hK : VS _ _ _ = KK; simp (maxSteps := 1000000) [hF, dH]; (try subst hK)
            repeat first
              | refine VS.seq ?_
              | (refine VS.keepAt 12 [] ?_; generalize hK : VS _ _ _ = KK; (try simp); (try subst hK); refine VS.region tabOk (id := 12) [] (by kernel_rfl) ?_; generalize hK : VS _ _ _ = KK; simp (maxSteps := 1000000) [hF]; (try subst hK); try (refine VS.keep [8] ?_; generalize hK : VS _ _ _ = KK; simp; (try subst hK)))
            refine VS.widen [(0, [.d])] (by simp [covers, mpre]) ?_
            try refine VS.ret ?_
            repeat first | refine blockN_ret ?_ | refine loopN_ret ?_
            refine endK.of [8] [0] [(0, [.d])] (by simp [hF]) (by simp [covers, mpre]) ?_
            simp [hF, retK, dH, hc, hPf]
        · have hc : moveOf h w t k = (h, sendsOf h w t k) := by simp [moveOf, hz, htd]
          repeat first
            | refine VS.seq ?_
            | (refine VS.keepAt 4 [0, 2, 3, 9] ?_; generalize hK : VS _ _ _ = KK; (try simp); (try subst hK); refine VS.region tabOk (id := 4) [] (by kernel_rfl) ?_; generalize hK : VS _ _ _ = KK; simp (maxSteps := 1000000) [hF, hz]; (try subst hK); try (refine VS.keep [0, 2, 3, 9, 52] ?_; generalize hK : VS _ _ _ = KK; simp; (try subst hK)))
            | (refine VS.keepAt 5 [9] ?_; generalize hK : VS _ _ _ = KK; (try simp); (try subst hK); refine VS.region tabOk (id := 5) [] (by kernel_rfl) ?_; generalize hK : VS _ _ _ = KK; simp (maxSteps := 1000000) [hF, hz]; (try subst hK); try (refine VS.keep [8] ?_; generalize hK : VS _ _ _ = KK; simp; (try subst hK)))
            | (refine VS.cond ?_; generalize hK1 : VS _ _ _ = KK1; generalize hK2 : VS _ _ _ = KK2; simp (maxSteps := 1000000) [hF, hz]; (try subst hK1); (try subst hK2))
          refine VS.widen [(0, [.d])] (by simp [covers, mpre]) ?_
          try refine VS.ret ?_
          repeat first | refine blockN_ret ?_ | refine loopN_ret ?_
          refine endK.of [8] [0] [(0, [.d])] (by simp [hF]) (by simp [covers, mpre]) ?_
          simp [hF, retK, dH, hc]
    · refine (has_c1 h true k).call [(0, []), (1, [])] (by simp) (by simp (maxSteps := 1000000) [hF, v3, dH, hn, hk, ho]) (by simp (maxSteps := 1000000) [hF, v3, dH, hn, hk, ho]) (by simp (maxSteps := 1000000) [hF, v3, dH, hn, hk, ho]) (by simp) ?_
      rintro av X κ ⟨rfl, rfl, rfl⟩
      generalize hK : VS _ _ _ = KK; simp (maxSteps := 1000000) [hF, v3, dH, hn, hk, ho]; (try subst hK)
      repeat first
        | refine VS.seq ?_
        | refine VS.skip ?_
        | (refine VS.keepAt 3 [0, 1, 2, 3] ?_; generalize hK : VS _ _ _ = KK; (try simp); (try subst hK); refine VS.region tabOk (id := 3) [] (by kernel_rfl) ?_; generalize hK : VS _ _ _ = KK; simp (maxSteps := 1000000) [hF]; (try subst hK); try (refine VS.keep [0, 2, 3, 9] ?_; generalize hK : VS _ _ _ = KK; simp; (try subst hK)))
        | (refine VS.cond ?_; generalize hK1 : VS _ _ _ = KK1; generalize hK2 : VS _ _ _ = KK2; simp (maxSteps := 1000000) [hF]; (try subst hK1); (try subst hK2))
      refine (sends_c h w t k).call [(0, [])] (by simp) (by simp (maxSteps := 1000000) [hF, dH]) (by simp (maxSteps := 1000000) [hF, dH]) (by simp (maxSteps := 1000000) [hF, dH]) (by simp) ?_
      rintro av X κ ⟨rfl, rfl, rfl⟩
      generalize hK : VS _ _ _ = KK; simp (maxSteps := 1000000) [hF, dH]; (try subst hK)
      by_cases hz : sendsOf h w t k = 0
      · have hc : moveOf h w t k = (putOf { h with things := paint (ownF t) (ownA h.things k) h.things } t k, 0) := by simp [moveOf, hz, ho, hk]
        repeat first
          | refine VS.seq ?_
          | refine VS.skip ?_
          | (refine VS.keepAt 4 [0, 2, 3, 9] ?_; generalize hK : VS _ _ _ = KK; (try simp); (try subst hK); refine VS.region tabOk (id := 4) [] (by kernel_rfl) ?_; generalize hK : VS _ _ _ = KK; simp (maxSteps := 1000000) [hF, hz]; (try subst hK); try (refine VS.keep [0, 2, 3, 9, 52] ?_; generalize hK : VS _ _ _ = KK; simp; (try subst hK)))
          | (refine VS.keepAt 6 [0, 2, 3] ?_; generalize hK : VS _ _ _ = KK; (try simp); (try subst hK); refine VS.region tabOk (id := 6) [] (by kernel_rfl) ?_; generalize hK : VS _ _ _ = KK; simp (maxSteps := 1000000) [hF, hz]; (try subst hK); try (refine VS.keep [0, 2, 3, 56, 57, 58] ?_; generalize hK : VS _ _ _ = KK; simp; (try subst hK)))
          | (refine VS.cond ?_; generalize hK1 : VS _ _ _ = KK1; generalize hK2 : VS _ _ _ = KK2; simp (maxSteps := 1000000) [hF, hz]; (try subst hK1); (try subst hK2))
        refine (own_c h hok k hk).call [(0, [])] (by simp) (by simp (maxSteps := 1000000) [hF, dH]) (by simp (maxSteps := 1000000) [hF, dH]) (by simp (maxSteps := 1000000) [hF, dH]) (by simp) ?_
        rintro av X κ ⟨z2, rfl, rfl, rfl⟩
        generalize hK : VS _ _ _ = KK; simp (maxSteps := 1000000) [hF, dH]; (try subst hK)
        repeat first
          | refine VS.block ?_
        have hcm : (dInts (ownA h.things k ++ z2)).mid 0 (ownA h.things k).length = dInts (ownA h.things k) := by rw [dInts_mid]; simp
        refine VS.cool 56 (by simp (maxSteps := 1000000) [hF, hcm]) ?_
        generalize hK : VS _ _ _ = KK; simp [hF, St.cool, hcm]; (try subst hK)
        refine VS.widen [(0, [.d])] (by simp [covers, mpre]) ?_
        refine VS.pick [0, 2, 3, 56, 57, 58] [0] (by simp [hF]) ?_
        generalize hK : VS _ _ _ = KK; simp [hF]; (try subst hK)
        have hq50 := (sends_eq hz).2.2.2.1
        have hLv : ∀ i, (hi : i < (ownA h.things (k : Int)).length) → ∃ y : Nat, (ownA h.things (k : Int))[i] = y ∧ y < h.things.length := fun i hi => own_nat hok hk hi
        have hol2 := own_len hok hk
        generalize hL : ownA h.things (k : Int) = L at *
        refine VS.rounds (fun m st => ∃ (i : Nat) (P : List Tg), i + m = L.length ∧ P = paint (ownF t) (L.take i) h.things ∧ st = ⟨[(0, .ptr 0 [.d]), (2, avInt t), (3, avInt k), (56, .imm 1 (dInts L) false), (57, avInt L.length), (58, avInt i)], [dH { h with things := P }], [(0, [.d])], []⟩) ⟨L.length, 0, h.things, by omega, by simp [paint_nil], by simp [dH]⟩ ?_
        rintro m st ⟨i, P, hi, hP, rfl⟩
        have hPl : P.length = h.things.length := by simp [hP]
        repeat first
          | refine VS.seq ?_
          | (refine VS.keepAt 7 [0, 2, 3, 56, 57, 58] ?_; generalize hK : VS _ _ _ = KK; (try simp); (try subst hK); refine VS.region tabOk (id := 7) [] (by kernel_rfl) ?_; generalize hK : VS _ _ _ = KK; simp (maxSteps := 1000000) [hF]; (try subst hK); try (refine VS.keep [0, 2, 3, 56, 57, 58, 59] ?_; generalize hK : VS _ _ _ = KK; simp; (try subst hK)))
          | (refine VS.cond ?_; generalize hK1 : VS _ _ _ = KK1; generalize hK2 : VS _ _ _ = KK2; simp (maxSteps := 1000000) [hF]; (try subst hK1); (try subst hK2))
        refine ⟨fun hlt => ?_, fun hge => ?_⟩
        · obtain ⟨y, hy, hyl⟩ := hLv i hlt
          have hyP : y < P.length := by omega
          have hn2 := dTgs_nth (o := true) hyP
          have hin : (dInts L).nth i = .val (.int .i64 y) := by rw [dInts_nth hlt, hy]
          have hw2 : IntKind.i64.wrap ((i : Int) + 1) = (i + 1 : Nat) := by rw [IntWalk.i64_in _ (by omega)]; rfl
          have hset := dTgs_set true P y ⟨t, P[y].list, P[y].word, P[y].items, P[y].frozen⟩
          have hst : P.set y ⟨t, P[y].list, P[y].word, P[y].items, P[y].frozen⟩ = paint (ownF t) (L.take (i + 1)) h.things := by
            have e : L.take (i + 1) = L.take i ++ [(y : Int)] := by rw [List.take_add_one, List.getElem?_eq_getElem hlt, hy]; rfl
            rw [e, ← paint_step (f := ownF t) (fun _ => rfl) hyl]
            subst hP; rfl
          repeat first
            | refine VS.seq ?_
            | refine VS.skip ?_
            | refine VS.block ?_
            | refine VS.nil ?_
            | refine blockN_normal ?_
            | refine loopN_normal ?_
            | (refine VS.keepAt 8 [0, 2, 3, 56, 57, 58] ?_; generalize hK : VS _ _ _ = KK; (try simp); (try subst hK); refine VS.region tabOk (id := 8) [] (by kernel_rfl) ?_; generalize hK : VS _ _ _ = KK; simp (maxSteps := 1000000) [hF, hin, hlt, dH, hn2, hyP, hyl, hset, hw2]; (try subst hK); try (refine VS.keep [0, 2, 3, 11, 56, 57, 58] ?_; generalize hK : VS _ _ _ = KK; simp; (try subst hK)))
            | (refine VS.keepAt 9 [0, 2, 3, 11, 56, 57, 58] ?_; generalize hK : VS _ _ _ = KK; (try simp); (try subst hK); refine VS.region tabOk (id := 9) [] (by kernel_rfl) ?_; generalize hK : VS _ _ _ = KK; simp (maxSteps := 1000000) [hF, hin, hlt, dH, hn2, hyP, hyl, hset, hw2]; (try subst hK); try (refine VS.keep [0, 2, 3, 56, 57, 58] ?_; generalize hK : VS _ _ _ = KK; simp; (try subst hK)))
            | (refine VS.keepAt 10 [0, 2, 3, 56, 57, 58] ?_; generalize hK : VS _ _ _ = KK; (try simp); (try subst hK); refine VS.region tabOk (id := 10) [] (by kernel_rfl) ?_; generalize hK : VS _ _ _ = KK; simp (maxSteps := 1000000) [hF, hin, hlt, dH, hn2, hyP, hyl, hset, hw2]; (try subst hK); try (refine VS.keep [0, 2, 3, 56, 57, 58] ?_; generalize hK : VS _ _ _ = KK; simp; (try subst hK)))
          refine nextK.of [0, 2, 3, 56, 57, 58] [0] (m - 1) (by omega) (by simp [hF]) ?_
          refine ⟨i + 1, _, by omega, hst, ?_⟩
          simp [dH]
        · have hPf : P = paint (ownF t) L h.things := by rw [hP, List.take_of_length_le (by omega)]
          rw [gr_at htl] at hq50
          repeat first
            | refine VS.seq ?_
            | refine VS.exit ?_
            | (refine VS.keepAt 11 [0, 2, 3] ?_; generalize hK : VS _ _ _ = KK; (try simp); (try subst hK); refine VS.region tabOk (id := 11) [] (by kernel_rfl) ?_; generalize hK : VS _ _ _ = KK; simp (maxSteps := 1000000) [hF]; (try subst hK); try (refine VS.keep [] ?_; generalize hK : VS _ _ _ = KK; simp; (try subst hK)))
          refine (put_ok { h with things := P } t k htl (by simp only; omega)).call [(0, [])] (by simp) (by simp (maxSteps := 1000000) [hF, dH]) (by simp (maxSteps := 1000000) [hF, dH]) (by simp (maxSteps := 1000000) [hF, dH]) (by simp) ?_
          rintro av X κ ⟨rfl, rfl⟩
          generalize hK : VS _ _ _ = KK; simp (maxSteps := 1000000) [hF, dH]; (try subst hK)
          repeat first
            | refine VS.seq ?_
            | (refine VS.keepAt 12 [] ?_; generalize hK : VS _ _ _ = KK; (try simp); (try subst hK); refine VS.region tabOk (id := 12) [] (by kernel_rfl) ?_; generalize hK : VS _ _ _ = KK; simp (maxSteps := 1000000) [hF]; (try subst hK); try (refine VS.keep [8] ?_; generalize hK : VS _ _ _ = KK; simp; (try subst hK)))
          refine VS.widen [(0, [.d])] (by simp [covers, mpre]) ?_
          try refine VS.ret ?_
          repeat first | refine blockN_ret ?_ | refine loopN_ret ?_
          refine endK.of [8] [0] [(0, [.d])] (by simp [hF]) (by simp [covers, mpre]) ?_
          simp [hF, retK, dH, hc, hPf]
      · have hc : moveOf h w t k = (h, sendsOf h w t k) := by simp [moveOf, hz, ho, hk]
        repeat first
          | refine VS.seq ?_
          | (refine VS.keepAt 4 [0, 2, 3, 9] ?_; generalize hK : VS _ _ _ = KK; (try simp); (try subst hK); refine VS.region tabOk (id := 4) [] (by kernel_rfl) ?_; generalize hK : VS _ _ _ = KK; simp (maxSteps := 1000000) [hF, hz]; (try subst hK); try (refine VS.keep [0, 2, 3, 9, 52] ?_; generalize hK : VS _ _ _ = KK; simp; (try subst hK)))
          | (refine VS.keepAt 5 [9] ?_; generalize hK : VS _ _ _ = KK; (try simp); (try subst hK); refine VS.region tabOk (id := 5) [] (by kernel_rfl) ?_; generalize hK : VS _ _ _ = KK; simp (maxSteps := 1000000) [hF, hz]; (try subst hK); try (refine VS.keep [8] ?_; generalize hK : VS _ _ _ = KK; simp; (try subst hK)))
          | (refine VS.cond ?_; generalize hK1 : VS _ _ _ = KK1; generalize hK2 : VS _ _ _ = KK2; simp (maxSteps := 1000000) [hF, hz]; (try subst hK1); (try subst hK2))
        refine VS.widen [(0, [.d])] (by simp [covers, mpre]) ?_
        try refine VS.ret ?_
        repeat first | refine blockN_ret ?_ | refine loopN_ret ?_
        refine endK.of [8] [0] [(0, [.d])] (by simp [hF]) (by simp [covers, mpre]) ?_
        simp [hF, retK, dH, hc]
  · have hz : sendsOf h who to x = 1 := by
      simp only [sendsOf]
      rw [if_pos]
      cases h1 : isR h who <;> cases h2 : isR h to <;> cases h3 : isT h x <;> simp_all
    have hc : moveOf h who to x = (h, 1) := by
      simp only [moveOf, hz]
      rw [if_neg (fun hh => hv ⟨hh.1, hh.2.1, hh.2.2.1⟩)]; rfl
    cases h1 : isR h who with
    | false =>
      refine (is_c h who).call [(0, [])] (by simp) (by simp (maxSteps := 1000000) [hF, h1, dH]) (by simp (maxSteps := 1000000) [hF, h1, dH]) (by simp (maxSteps := 1000000) [hF, h1, dH]) (by simp) ?_
      rintro av X κ ⟨rfl, rfl, rfl⟩
      generalize hK : VS _ _ _ = KK; simp (maxSteps := 1000000) [hF, h1, dH]; (try subst hK)
      repeat first
        | refine VS.seq ?_
        | refine VS.skip ?_
        | (refine VS.keepAt 3 [0, 1, 2, 3] ?_; generalize hK : VS _ _ _ = KK; (try simp); (try subst hK); refine VS.region tabOk (id := 3) [] (by kernel_rfl) ?_; generalize hK : VS _ _ _ = KK; simp (maxSteps := 1000000) [hF]; (try subst hK); try (refine VS.keep [0, 2, 3, 9] ?_; generalize hK : VS _ _ _ = KK; simp; (try subst hK)))
        | (refine VS.cond ?_; generalize hK1 : VS _ _ _ = KK1; generalize hK2 : VS _ _ _ = KK2; simp (maxSteps := 1000000) [hF]; (try subst hK1); (try subst hK2))
      refine (sends_c h who to x).call [(0, [])] (by simp) (by simp (maxSteps := 1000000) [hF, hz, dH]) (by simp (maxSteps := 1000000) [hF, hz, dH]) (by simp (maxSteps := 1000000) [hF, hz, dH]) (by simp) ?_
      rintro av X κ ⟨rfl, rfl, rfl⟩
      generalize hK : VS _ _ _ = KK; simp (maxSteps := 1000000) [hF, hz, dH]; (try subst hK)
      repeat first
        | refine VS.seq ?_
        | (refine VS.keepAt 4 [0, 2, 3, 9] ?_; generalize hK : VS _ _ _ = KK; (try simp); (try subst hK); refine VS.region tabOk (id := 4) [] (by kernel_rfl) ?_; generalize hK : VS _ _ _ = KK; simp (maxSteps := 1000000) [hF, hz]; (try subst hK); try (refine VS.keep [0, 2, 3, 9, 52] ?_; generalize hK : VS _ _ _ = KK; simp; (try subst hK)))
        | (refine VS.keepAt 5 [9] ?_; generalize hK : VS _ _ _ = KK; (try simp); (try subst hK); refine VS.region tabOk (id := 5) [] (by kernel_rfl) ?_; generalize hK : VS _ _ _ = KK; simp (maxSteps := 1000000) [hF, hz]; (try subst hK); try (refine VS.keep [8] ?_; generalize hK : VS _ _ _ = KK; simp; (try subst hK)))
        | (refine VS.cond ?_; generalize hK1 : VS _ _ _ = KK1; generalize hK2 : VS _ _ _ = KK2; simp (maxSteps := 1000000) [hF, hz]; (try subst hK1); (try subst hK2))
      refine VS.widen [(0, [.d])] (by simp [covers, mpre]) ?_
      try refine VS.ret ?_
      repeat first | refine blockN_ret ?_ | refine loopN_ret ?_
      refine endK.of [8] [0] [(0, [.d])] (by simp [hF]) (by simp [covers, mpre]) ?_
      simp [hF, retK, dH, hc]
    | true =>
      refine (is_c h who).call [(0, [])] (by simp) (by simp (maxSteps := 1000000) [hF, h1, dH]) (by simp (maxSteps := 1000000) [hF, h1, dH]) (by simp (maxSteps := 1000000) [hF, h1, dH]) (by simp) ?_
      rintro av X κ ⟨rfl, rfl, rfl⟩
      generalize hK : VS _ _ _ = KK; simp (maxSteps := 1000000) [hF, h1, dH]; (try subst hK)
      cases h2 : isR h to with
      | false =>
        refine (is_c h to).call [(0, [])] (by simp) (by simp (maxSteps := 1000000) [hF, h2, dH]) (by simp (maxSteps := 1000000) [hF, h2, dH]) (by simp (maxSteps := 1000000) [hF, h2, dH]) (by simp) ?_
        rintro av X κ ⟨rfl, rfl, rfl⟩
        generalize hK : VS _ _ _ = KK; simp (maxSteps := 1000000) [hF, h2, dH]; (try subst hK)
        repeat first
          | refine VS.seq ?_
          | refine VS.skip ?_
          | (refine VS.keepAt 3 [0, 1, 2, 3] ?_; generalize hK : VS _ _ _ = KK; (try simp); (try subst hK); refine VS.region tabOk (id := 3) [] (by kernel_rfl) ?_; generalize hK : VS _ _ _ = KK; simp (maxSteps := 1000000) [hF]; (try subst hK); try (refine VS.keep [0, 2, 3, 9] ?_; generalize hK : VS _ _ _ = KK; simp; (try subst hK)))
          | (refine VS.cond ?_; generalize hK1 : VS _ _ _ = KK1; generalize hK2 : VS _ _ _ = KK2; simp (maxSteps := 1000000) [hF]; (try subst hK1); (try subst hK2))
        refine (sends_c h who to x).call [(0, [])] (by simp) (by simp (maxSteps := 1000000) [hF, hz, dH]) (by simp (maxSteps := 1000000) [hF, hz, dH]) (by simp (maxSteps := 1000000) [hF, hz, dH]) (by simp) ?_
        rintro av X κ ⟨rfl, rfl, rfl⟩
        generalize hK : VS _ _ _ = KK; simp (maxSteps := 1000000) [hF, hz, dH]; (try subst hK)
        repeat first
          | refine VS.seq ?_
          | (refine VS.keepAt 4 [0, 2, 3, 9] ?_; generalize hK : VS _ _ _ = KK; (try simp); (try subst hK); refine VS.region tabOk (id := 4) [] (by kernel_rfl) ?_; generalize hK : VS _ _ _ = KK; simp (maxSteps := 1000000) [hF, hz]; (try subst hK); try (refine VS.keep [0, 2, 3, 9, 52] ?_; generalize hK : VS _ _ _ = KK; simp; (try subst hK)))
          | (refine VS.keepAt 5 [9] ?_; generalize hK : VS _ _ _ = KK; (try simp); (try subst hK); refine VS.region tabOk (id := 5) [] (by kernel_rfl) ?_; generalize hK : VS _ _ _ = KK; simp (maxSteps := 1000000) [hF, hz]; (try subst hK); try (refine VS.keep [8] ?_; generalize hK : VS _ _ _ = KK; simp; (try subst hK)))
          | (refine VS.cond ?_; generalize hK1 : VS _ _ _ = KK1; generalize hK2 : VS _ _ _ = KK2; simp (maxSteps := 1000000) [hF, hz]; (try subst hK1); (try subst hK2))
        refine VS.widen [(0, [.d])] (by simp [covers, mpre]) ?_
        try refine VS.ret ?_
        repeat first | refine blockN_ret ?_ | refine loopN_ret ?_
        refine endK.of [8] [0] [(0, [.d])] (by simp [hF]) (by simp [covers, mpre]) ?_
        simp [hF, retK, dH, hc]
      | true =>
        refine (is_c h to).call [(0, [])] (by simp) (by simp (maxSteps := 1000000) [hF, h2, dH]) (by simp (maxSteps := 1000000) [hF, h2, dH]) (by simp (maxSteps := 1000000) [hF, h2, dH]) (by simp) ?_
        rintro av X κ ⟨rfl, rfl, rfl⟩
        generalize hK : VS _ _ _ = KK; simp (maxSteps := 1000000) [hF, h2, dH]; (try subst hK)
        have h3 : isT h x = false := by
          cases h3 : isT h x with
          | false => rfl
          | true => exact absurd ⟨h1, h2, h3⟩ hv
        refine (has_c1 h true x).call [(0, []), (1, [])] (by simp) (by simp (maxSteps := 1000000) [hF, h3, dH]) (by simp (maxSteps := 1000000) [hF, h3, dH]) (by simp (maxSteps := 1000000) [hF, h3, dH]) (by simp) ?_
        rintro av X κ ⟨rfl, rfl, rfl⟩
        generalize hK : VS _ _ _ = KK; simp (maxSteps := 1000000) [hF, h3, dH]; (try subst hK)
        repeat first
          | refine VS.seq ?_
          | refine VS.skip ?_
          | (refine VS.keepAt 3 [0, 1, 2, 3] ?_; generalize hK : VS _ _ _ = KK; (try simp); (try subst hK); refine VS.region tabOk (id := 3) [] (by kernel_rfl) ?_; generalize hK : VS _ _ _ = KK; simp (maxSteps := 1000000) [hF]; (try subst hK); try (refine VS.keep [0, 2, 3, 9] ?_; generalize hK : VS _ _ _ = KK; simp; (try subst hK)))
          | (refine VS.cond ?_; generalize hK1 : VS _ _ _ = KK1; generalize hK2 : VS _ _ _ = KK2; simp (maxSteps := 1000000) [hF]; (try subst hK1); (try subst hK2))
        refine (sends_c h who to x).call [(0, [])] (by simp) (by simp (maxSteps := 1000000) [hF, hz, dH]) (by simp (maxSteps := 1000000) [hF, hz, dH]) (by simp (maxSteps := 1000000) [hF, hz, dH]) (by simp) ?_
        rintro av X κ ⟨rfl, rfl, rfl⟩
        generalize hK : VS _ _ _ = KK; simp (maxSteps := 1000000) [hF, hz, dH]; (try subst hK)
        repeat first
          | refine VS.seq ?_
          | (refine VS.keepAt 4 [0, 2, 3, 9] ?_; generalize hK : VS _ _ _ = KK; (try simp); (try subst hK); refine VS.region tabOk (id := 4) [] (by kernel_rfl) ?_; generalize hK : VS _ _ _ = KK; simp (maxSteps := 1000000) [hF, hz]; (try subst hK); try (refine VS.keep [0, 2, 3, 9, 52] ?_; generalize hK : VS _ _ _ = KK; simp; (try subst hK)))
          | (refine VS.keepAt 5 [9] ?_; generalize hK : VS _ _ _ = KK; (try simp); (try subst hK); refine VS.region tabOk (id := 5) [] (by kernel_rfl) ?_; generalize hK : VS _ _ _ = KK; simp (maxSteps := 1000000) [hF, hz]; (try subst hK); try (refine VS.keep [8] ?_; generalize hK : VS _ _ _ = KK; simp; (try subst hK)))
          | (refine VS.cond ?_; generalize hK1 : VS _ _ _ = KK1; generalize hK2 : VS _ _ _ = KK2; simp (maxSteps := 1000000) [hF, hz]; (try subst hK1); (try subst hK2))
        refine VS.widen [(0, [.d])] (by simp [covers, mpre]) ?_
        try refine VS.ret ?_
        repeat first | refine blockN_ret ?_ | refine loopN_ret ?_
        refine endK.of [8] [0] [(0, [.d])] (by simp [hF]) (by simp [covers, mpre]) ?_
        simp [hF, retK, dH, hc]
end Go.Proofs.Ytkkbcpcihadkhaa

/- Graphs and lists of a house that can change. -/
namespace Go.Proofs.Ytkkbcpcihadkhaa
set_option linter.all false
open Go.Vc Go.Proofs
set_option linter.unusedSimpArgs false
set_option linter.unusedVariables false
set_option maxRecDepth 100000
set_option maxHeartbeats 4000000
attribute [local irreducible] CallW EqK

@[simp] theorem own_cls (l : List Cl) : (dCls l).allOwn = true := own_sq fun x hx => by obtain ⟨c, _, rfl⟩ := List.mem_map.1 hx; simp [dCl, T.allOwn]
theorem graph_c (h : Hs) (hok : Hok h) (who x : Int) : Meets Try.prog 15 [dH h] (.cons (.ptr 0 [.d]) (.cons (avInt who) (.cons (avInt x) .nil)))
    fun av X κ => av = avTwo (.sub 1 [] 0 (graphOf h who x).1.length false) (graphOf h who x).2 ∧ X = [dH h, .sl true () 5 (dCls (graphOf h who x).1)] ∧ κ = [] :=
  warmH (graph_ok h hok who x) rfl rfl (by simp [T.allOwn]) rfl
theorem list_n (h : Hs) (hl : h.things.length ≤ 400) (who : Int) : Meets Try.prog 32 [dH h] (.cons (.ptr 0 [.d]) (.cons (avInt who) (.cons (.nils 1) .nil)))
    fun av X κ => av = two (listOf h who []).2 ∧ X = [dH (listOf h who []).1] ∧ κ = [(0, [.d])] := Meets.nilled (list_ok h hl who [] true (by simp))
theorem own_rms (l : List Rm) : (dRms true l).allOwn = true := own_sq fun x hx => by obtain ⟨c, _, rfl⟩ := List.mem_map.1 hx; simp [dRm, T.allOwn]
theorem own_tgs (l : List Tg) : (dTgs true l).allOwn = true := own_sq fun x hx => by obtain ⟨c, _, rfl⟩ := List.mem_map.1 hx; simp [dTg, T.allOwn]
@[simp] theorem own_dH (h : Hs) : (dH h).allOwn = true := by simp [dH, T.allOwn, own_rms, own_tgs]
theorem list_r (h : Hs) (hl : h.things.length ≤ 400) (who : Int) (l z : List Int) (ex : Bool) (hll : l.length ≤ 100000000) : Meets Try.prog 32 [.sl true () 1 (dInts (l ++ z)), dH h] (.cons (.ptr 1 [.d]) (.cons (avInt who) (.cons (.sub 0 [] 0 l.length ex) .nil)))
    fun av X κ => av = two (listOf h who l).2 ∧ X = [.sl true () 1 (dInts (l ++ z)), dH (listOf h who l).1] ∧ κ = [(1, [.d])] := by
  have hm : (dInts (l ++ z)).mid 0 l.length = dInts l := by rw [dInts_mid]; simp
  have e : (AV.cons (.ptr 1 [.d]) (.cons (avInt who) (.cons (.sub 0 [] 0 l.length ex) .nil))).chilled (.sl true () 1 (dInts (l ++ z))) = .cons (.ptr 0 [.d]) (.cons (avInt who) (.cons (.imm 1 (dInts l) ex) .nil)) := by
    simp only [AV.chilled, hm, freeze_ints]
  refine Meets.mono (Meets.warmK (Y := [dH h]) (by rw [e]; exact list_ok h hl who l ex hll) ?_) ?_
  · rintro av X κ ⟨rfl, rfl, rfl⟩
    exact ⟨rfl, by simp⟩
  · rintro av X κ ⟨av0, X0, κ0, ⟨rfl, rfl, rfl⟩, rfl, rfl, rfl⟩
    exact ⟨rfl, rfl, rfl⟩

theorem N_OK : Hok ⟨[], []⟩ := ⟨by simp, by simp, by simp, by simp [ItemsOk], by simp, by simp, by simp, by simp, by simp⟩
end Go.Proofs.Ytkkbcpcihadkhaa

/- The example of the chapter. -/
namespace Go.Proofs.Ytkkbcpcihadkhaa
set_option linter.all false
open Go.Vc Go.Proofs
set_option linter.unusedSimpArgs false
set_option linter.unusedVariables false
set_option maxRecDepth 100000
set_option maxHeartbeats 4000000
attribute [local irreducible] CallW EqK

def H1 : Hs := ⟨[⟨[], false⟩, ⟨[], false⟩], [⟨0, false, 7, [], false⟩]⟩
def H2 : Hs := ⟨[⟨[], false⟩, ⟨[], false⟩], [⟨0, false, 7, [], false⟩, ⟨0, true, 0, [0], false⟩]⟩
def H3 : Hs := ⟨[⟨[], false⟩, ⟨[1], false⟩], [⟨1, false, 7, [], false⟩, ⟨1, true, 0, [0], false⟩]⟩
theorem s1 : leafOf (newH 2) 0 7 = (H1, 0, 0) := by kernel_rfl
theorem s2 : listOf H1 0 [0] = (H2, 1, 0) := by kernel_rfl
theorem s3 : moveOf H2 0 1 1 = (H3, 0) := by kernel_rfl
theorem s4 : getOf H3 0 1 0 = (0, 3) := by kernel_rfl
theorem s5 : getOf H3 1 1 0 = (0, 0) := by kernel_rfl
theorem H2_OK : Hok H2 := by
  refine ⟨by simp [H2], by simp [H2], by simp [H2], by simp [H2, ItemsOk], by simp [H2], by simp [H2], by simp [H2], by simp [H2], ?_⟩
  simp [H2]

/- cabochon/cabochonlaw28.sane -/
theorem sane_ok : Meets Try.prog 12 [] .nil fun av X κ => av = avBool true ∧ X = [] ∧ κ = [] := by
  refine Meets.of_vs tabOk Try.func12 (body := ?_) ?_ (by kernel_rfl) Try.ntmps12 (rs := [.tmp 0]) (by kernel_rfl) rfl (by simp [AV.len]) (by simp only [envOf]; exact rfl) ?_
  rotate_left
  · rfl
  intro w0 I0 F0 hF
  repeat first
    | refine VS.seq ?_
    | (refine VS.keepAt 0 [] ?_; generalize hK : VS _ _ _ = KK; (try simp); (try subst hK); refine VS.region tabOk (id := 0) [] (by kernel_rfl) ?_; generalize hK : VS _ _ _ = KK; simp (maxSteps := 1000000) [hF]; (try subst hK); try (refine VS.keep [] ?_; generalize hK : VS _ _ _ = KK; simp; (try subst hK)))
    | (refine VS.keepAt 1 [] ?_; generalize hK : VS _ _ _ = KK; (try simp); (try subst hK); refine VS.region tabOk (id := 1) [] (by kernel_rfl) ?_; generalize hK : VS _ _ _ = KK; simp (maxSteps := 1000000) [hF]; (try subst hK); try (refine VS.keep [1, 2] ?_; generalize hK : VS _ _ _ = KK; simp; (try subst hK)))
  refine (new_ok 2 (by omega) (by omega)).call [] (by simp) (by simp (maxSteps := 1000000) [hF]) (by simp (maxSteps := 1000000) [hF]) (by simp (maxSteps := 1000000) [hF]) (by simp) ?_
  rintro av X κ ⟨rfl, rfl, rfl⟩
  generalize hK : VS _ _ _ = KK; simp (maxSteps := 1000000) [hF]; (try subst hK)
  repeat first
    | refine VS.seq ?_
    | refine VS.skip ?_
    | (refine VS.keepAt 2 [1, 2] ?_; generalize hK : VS _ _ _ = KK; (try simp); (try subst hK); refine VS.region tabOk (id := 2) [(2, 18)] (by kernel_rfl) ?_; generalize hK : VS _ _ _ = KK; simp (maxSteps := 1000000) [hF]; (try subst hK); try (refine VS.keep [1, 21] ?_; generalize hK : VS _ _ _ = KK; simp; (try subst hK)))
    | (refine VS.keepAt 4 [1] ?_; generalize hK : VS _ _ _ = KK; (try simp); (try subst hK); refine VS.region tabOk (id := 4) [] (by kernel_rfl) ?_; generalize hK : VS _ _ _ = KK; simp (maxSteps := 1000000) [hF]; (try subst hK); try (refine VS.keep [1, 3, 4] ?_; generalize hK : VS _ _ _ = KK; simp; (try subst hK)))
    | (refine VS.cond ?_; generalize hK1 : VS _ _ _ = KK1; generalize hK2 : VS _ _ _ = KK2; simp (maxSteps := 1000000) [hF]; (try subst hK1); (try subst hK2))
  refine (leaf_ok (newH 2) (by simp [newH]) 0 7).call [(0, [])] (by simp) (by simp (maxSteps := 1000000) [hF, s1, dH]) (by simp (maxSteps := 1000000) [hF, s1, dH]) (by simp (maxSteps := 1000000) [hF, s1, dH]) (by simp) ?_
  rintro av X κ ⟨rfl, rfl, rfl⟩
  generalize hK : VS _ _ _ = KK; simp (maxSteps := 1000000) [hF, s1, dH]; (try subst hK)
  repeat first
    | refine VS.seq ?_
    | (refine VS.keepAt 5 [1, 3, 4] ?_; generalize hK : VS _ _ _ = KK; (try simp); (try subst hK); refine VS.region tabOk (id := 5) [] (by kernel_rfl) ?_; generalize hK : VS _ _ _ = KK; simp (maxSteps := 1000000) [hF]; (try subst hK); try (refine VS.keep [1, 3, 4, 5, 6] ?_; generalize hK : VS _ _ _ = KK; simp; (try subst hK)))
  refine (list_r H1 (by simp [H1]) 0 [0] [] true (by simp)).call [(1, []), (0, [])] (by simp) (by simp (maxSteps := 1000000) [hF, s2, dInts, sq, dInt, dH]) (by simp (maxSteps := 1000000) [hF, s2, dInts, sq, dInt, dH]) (by simp (maxSteps := 1000000) [hF, s2, dInts, sq, dInt, dH]) (by simp) ?_
  rintro av X κ ⟨rfl, rfl, rfl⟩
  generalize hK : VS _ _ _ = KK; simp (maxSteps := 1000000) [hF, s2, dInts, sq, dInt, dH]; (try subst hK)
  repeat first
    | refine VS.seq ?_
    | (refine VS.keepAt 6 [1, 3, 4, 5, 6] ?_; generalize hK : VS _ _ _ = KK; (try simp); (try subst hK); refine VS.region tabOk (id := 6) [] (by kernel_rfl) ?_; generalize hK : VS _ _ _ = KK; simp (maxSteps := 1000000) [hF]; (try subst hK); try (refine VS.keep [1, 3, 4, 5, 6, 7] ?_; generalize hK : VS _ _ _ = KK; simp; (try subst hK)))
  refine (move_ok H2 H2_OK 0 1 1).call [(0, [])] (by simp) (by simp (maxSteps := 1000000) [hF, s3, dH]) (by simp (maxSteps := 1000000) [hF, s3, dH]) (by simp (maxSteps := 1000000) [hF, s3, dH]) (by simp) ?_
  rintro av X κ ⟨rfl, rfl, rfl⟩
  generalize hK : VS _ _ _ = KK; simp (maxSteps := 1000000) [hF, s3, dH]; (try subst hK)
  repeat first
    | refine VS.seq ?_
    | (refine VS.keepAt 7 [1, 3, 4, 5, 6, 7] ?_; generalize hK : VS _ _ _ = KK; (try simp); (try subst hK); refine VS.region tabOk (id := 7) [] (by kernel_rfl) ?_; generalize hK : VS _ _ _ = KK; simp (maxSteps := 1000000) [hF]; (try subst hK); try (refine VS.keep [1, 3, 4, 5, 6, 7, 9] ?_; generalize hK : VS _ _ _ = KK; simp; (try subst hK)))
  refine (get_c H3 0 1 0).call [(0, [])] (by simp) (by simp (maxSteps := 1000000) [hF, s4, dH]) (by simp (maxSteps := 1000000) [hF, s4, dH]) (by simp (maxSteps := 1000000) [hF, s4, dH]) (by simp) ?_
  rintro av X κ ⟨rfl, rfl, rfl⟩
  generalize hK : VS _ _ _ = KK; simp (maxSteps := 1000000) [hF, s4, dH]; (try subst hK)
  repeat first
    | refine VS.seq ?_
    | (refine VS.keepAt 8 [1, 3, 4, 5, 6, 7, 9] ?_; generalize hK : VS _ _ _ = KK; (try simp); (try subst hK); refine VS.region tabOk (id := 8) [] (by kernel_rfl) ?_; generalize hK : VS _ _ _ = KK; simp (maxSteps := 1000000) [hF]; (try subst hK); try (refine VS.keep [3, 4, 6, 7, 9, 10, 11] ?_; generalize hK : VS _ _ _ = KK; simp; (try subst hK)))
  refine (get_c H3 1 1 0).call [(0, [])] (by simp) (by simp (maxSteps := 1000000) [hF, s5, dH]) (by simp (maxSteps := 1000000) [hF, s5, dH]) (by simp (maxSteps := 1000000) [hF, s5, dH]) (by simp) ?_
  rintro av X κ ⟨rfl, rfl, rfl⟩
  generalize hK : VS _ _ _ = KK; simp (maxSteps := 1000000) [hF, s5, dH]; (try subst hK)
  repeat first
    | refine VS.seq ?_
    | (refine VS.keepAt 9 [3, 4, 6, 7, 9, 10, 11] ?_; generalize hK : VS _ _ _ = KK; (try simp); (try subst hK); refine VS.region tabOk (id := 9) [(2, 51), (6, 55), (10, 59), (14, 63), (19, 68)] (by kernel_rfl) ?_; generalize hK : VS _ _ _ = KK; simp (maxSteps := 1000000) [hF]; (try subst hK); try (refine VS.keep [0] ?_; generalize hK : VS _ _ _ = KK; simp; (try subst hK)))
  try refine VS.ret ?_
  repeat first | refine blockN_ret ?_ | refine loopN_ret ?_
  refine endK.of [0] [] [] (by simp [hF]) (by simp [covers, mpre]) ?_
  simp [hF, retK]
end Go.Proofs.Ytkkbcpcihadkhaa

/- From what a row's argument reads as to trees that cannot change. -/
namespace Go.Vc
set_option linter.all false
open T (hdr blk)

/-- The blocks that are there. -/
abbrev allB (w : World) : Nat → Prop := fun b => b < w.heap.size

/-- What a reading of a type shows: a tree that cannot change, of 'z' cells, with such a content. -/
def Reads (P : Program) (t : TypeId) (z : Nat) (good : D → Prop) : Prop :=
  ∀ (H : Type) (enc : TypeId × Value → H) (w : World) (fuel : Nat) (cs : List Value) (x : DataW H × List MemPlace), DataW.trod enc P w 0 (fun _ => true) true fuel t cs = some x →
    ∃ g : G, T.Holds w.heap (allB w) g ∧ g.free = true ∧ g.cells = cs ∧ g.width = z ∧ good g.erase

theorem reads_int {P : Program} {t : TypeId} {k : IntKind} (ht : P.underlying t = some (.int k)) : Reads P t 1 fun d => ∃ n, d = .val (.int k n) := fun H enc w fuel cs x h => by
  obtain ⟨n, rfl, _, _⟩ := DataW.trod_int ht h
  exact ⟨.val (.int k n), rfl, rfl, rfl, rfl, n, rfl⟩
theorem reads_str {P : Program} {t : TypeId} (ht : P.underlying t = some .string) : Reads P t 1 fun d => ∃ s, d = .val (.string s) := fun H enc w fuel cs x h => by
  obtain ⟨s, rfl, _, _⟩ := DataW.trod_string ht h
  exact ⟨.val (.string s), rfl, rfl, rfl, rfl, s, rfl⟩
theorem reads_bool {P : Program} {t : TypeId} (ht : P.underlying t = some .bool) : Reads P t 1 fun d => ∃ b, d = .val (.bool b) := fun H enc w fuel cs x h => by
  obtain ⟨b, rfl, _⟩ := DataW.trod_bool ht h
  exact ⟨.val (.bool b), rfl, rfl, rfl, rfl, b, rfl⟩

/-- The fields of a struct, one behind the other. -/
def FieldsRead (P : Program) : List Field → List (Nat × (D → Prop)) → Nat → Prop
  | [], [], _ => True
  | f :: fs, (z, good) :: r, o => Reads P f.type z good ∧ P.cellsOf f.type = z ∧ f.offset = o ∧ FieldsRead P fs r (o + z)
  | _, _, _ => False
def fieldsGood : List (Nat × (D → Prop)) → D → Prop
  | [], d => d = .nil
  | (_, good) :: r, d => ∃ a t, d = .cons a t ∧ good a ∧ fieldsGood r t
def fieldsSize : List (Nat × (D → Prop)) → Nat
  | [] => 0
  | (z, _) :: r => z + fieldsSize r

theorem reads_struct {P : Program} {t : TypeId} {fs : Array Field} (ht : P.underlying t = some (.struct fs)) {gs : List (Nat × (D → Prop))} (hf : FieldsRead P fs.toList gs 0) (hz : P.cellsOf t = fieldsSize gs) :
    Reads P t (fieldsSize gs) fun d => ∃ s, d = .agg s ∧ fieldsGood gs s := fun H enc w fuel cs x h => by
  obtain ⟨xs, n, _, _, hl, hlen, he⟩ := DataW.trod_struct ht h
  have each : ∀ f ∈ fs.toList, ∃ y, DataW.trod enc P w 0 (fun _ => true) true n f.type ((cs.drop f.offset).take (P.cellsOf f.type)) = some y := fun f hm => by
    obtain ⟨i, hi, rfl⟩ := List.getElem_of_mem hm
    have h1 := he i fs[i] (by simp at hi; simp [hi])
    rw [List.getElem?_eq_getElem (by simp at hi; omega)] at h1
    exact ⟨_, h1⟩
  have key : ∀ (l : List Field) (gs : List (Nat × (D → Prop))) (o : Nat), FieldsRead P l gs o → (∀ f ∈ l, f ∈ fs.toList) → cs.length = o + fieldsSize gs →
      ∃ s : G, T.Holds w.heap (allB w) s ∧ s.free = true ∧ s.cells = cs.drop o ∧ s.width = fieldsSize gs ∧ fieldsGood gs s.erase := by
    intro l
    induction l with
    | nil =>
      intro gs o h1 _ h2
      cases gs with
      | nil => exact ⟨.nil, trivial, rfl, by simp only [fieldsSize] at h2; simp [T.cells, h2], rfl, rfl⟩
      | cons _ _ => exact h1.elim
    | cons f l ih =>
      intro gs o h1 hm h2
      cases gs with
      | nil => exact h1.elim
      | cons p r =>
        obtain ⟨z, good⟩ := p
        obtain ⟨k1, k2, k3, k4⟩ := h1
        simp only [fieldsSize] at h2
        obtain ⟨s, s1, s2, s3, s4, s5⟩ := ih r (o + z) k4 (fun f hf => hm f (by simp [hf])) (by omega)
        obtain ⟨y, hy⟩ := each f (hm f (by simp))
        obtain ⟨g, g1, g2, g3, g4, g5⟩ := k1 H enc w n _ y hy
        refine ⟨.cons g s, ⟨g1, s1⟩, by simp [T.free, g2, s2], ?_, by simp [T.width, g4, s4, fieldsSize], _, _, rfl, g5, s5⟩
        simp only [T.cells, g3, s3, k2, k3]
        rw [← List.drop_drop, List.take_append_drop]
  obtain ⟨s, s1, s2, s3, s4, s5⟩ := key fs.toList gs 0 hf (fun _ h => h) (by rw [hl, hz]; omega)
  exact ⟨.agg s, s1, s2, by simpa [T.cells] using s3, s4, _, rfl, s5⟩

theorem erase_agg {g : G} {s : D} (h : g.erase = .agg s) : ∃ s', g = .agg s' ∧ s'.erase = s := by
  cases g <;> simp only [T.erase] at h <;> cases h
  exact ⟨_, rfl, rfl⟩
theorem erase_cons {g : G} {a t : D} (h : g.erase = .cons a t) : ∃ a' t', g = .cons a' t' ∧ a'.erase = a ∧ t'.erase = t := by
  cases g <;> simp only [T.erase] at h <;> cases h
  exact ⟨_, _, rfl, rfl, rfl⟩
theorem erase_val {g : G} {v : Value} (h : g.erase = .val v) : g = .val v := by
  cases g <;> simp only [T.erase] at h <;> cases h
  rfl
theorem erase_nil {g : G} (h : g.erase = .nil) : g = .nil := by
  cases g <;> simp only [T.erase] at h <;> cases h
  rfl

theorem map_of {α β : Type} {f : β → α} : ∀ {l : List α}, (∀ x ∈ l, ∃ y, x = f y) → ∃ ys : List β, l = ys.map f
  | [], _ => ⟨[], rfl⟩
  | x :: l, h => by
    obtain ⟨y, hy⟩ := h x (by simp)
    obtain ⟨ys, hys⟩ := map_of (l := l) (f := f) fun x hx => h x (List.mem_cons_of_mem _ hx)
    exact ⟨y :: ys, by rw [hy, hys]; rfl⟩

theorem cells?_at {w : World} {a : Addr} {n : Nat} {cs : List Value} (h : w.cells? 0 a n = some cs) : cs.length = n ∧ ∀ r v, cs[r]? = some v → w.cell? (a.add r) = some v := by
  obtain ⟨_, h1, h2⟩ := World.cells?_some h
  refine ⟨h1, fun r v hv => ?_⟩
  have hr : r < n := by rw [← h1]; exact (List.getElem?_eq_some_iff.1 hv).1
  have := h2 r hr
  rw [this, hv]

/-- The elements of a slice, one behind the other. -/
theorem reads_elems {P : Program} {e : TypeId} {z : Nat} {good : D → Prop} (he : Reads P e z good) {H : Type} {enc : TypeId × Value → H} {w : World} {n : Nat} {at_ : Nat → List Value} : ∀ (len i0 : Nat),
    (∀ i, i < len → ∃ y, DataW.trod enc P w 0 (fun _ => true) true n e (at_ (i0 + i)) = some y) →
    ∃ s : G, ∃ l : List D, T.Holds w.heap (allB w) s ∧ s.free = true ∧ s.uni z ∧ s.len = len ∧ s.erase = sq l ∧ l.length = len ∧ (∀ d ∈ l, good d) ∧ s.cells = ((List.range len).map fun i => at_ (i0 + i)).flatten
  | 0, i0, _ => ⟨.nil, [], trivial, rfl, trivial, rfl, rfl, rfl, by simp, rfl⟩
  | len + 1, i0, h => by
    obtain ⟨y, hy⟩ := h 0 (by omega)
    obtain ⟨g, g1, g2, g3, g4, g5⟩ := he H enc w n _ y hy
    obtain ⟨s, l, s1, s2, s3, s4, s5, s6, s7, s8⟩ := reads_elems he len (i0 + 1) fun i hi => by
      have := h (i + 1) (by omega)
      rwa [show i0 + (i + 1) = i0 + 1 + i by omega] at this
    refine ⟨.cons g s, g.erase :: l, ⟨g1, s1⟩, by simp [T.free, g2, s2], ⟨g4, s3⟩, by simp [T.len, s4], by simp [T.erase, sq, s5], by simp [s6], fun d hd => ?_, ?_⟩
    · rcases List.mem_cons.1 hd with rfl | hd
      · exact g5
      · exact s7 d hd
    · rw [List.range_succ_eq_map]
      simp only [T.cells, g3, s8, List.map_cons, List.flatten_cons, List.map_map, Nat.add_zero]
      congr 3
      funext i
      simp only [Function.comp]
      congr 1; omega

theorem flat_at {α : Type} {z : Nat} (hz : 0 < z) : ∀ (l : List (List α)) (_ : ∀ c ∈ l, c.length = z) (j : Nat) (v : α), l.flatten[j]? = some v → ∃ c, l[j / z]? = some c ∧ c[j % z]? = some v
  | [], _, j, v, h => by simp at h
  | c :: l, hl, j, v, h => by
    have hc := hl c (by simp)
    simp only [List.flatten_cons] at h
    rcases Nat.lt_or_ge j z with hj | hj
    · rw [List.getElem?_append_left (by omega)] at h
      exact ⟨c, by rw [Nat.div_eq_of_lt hj]; rfl, by rw [Nat.mod_eq_of_lt hj]; exact h⟩
    · rw [List.getElem?_append_right (by omega), hc] at h
      obtain ⟨c', h1, h2⟩ := flat_at hz l (fun c hc => hl c (by simp [hc])) (j - z) v h
      refine ⟨c', ?_, ?_⟩
      · rw [show j / z = (j - z) / z + 1 by rw [Nat.div_eq_sub_div hz hj]]; simpa using h1
      · rw [Nat.mod_eq_sub_mod hj]; exact h2

/-- A slice that is an argument: it cannot change. -/
theorem imm_of_trod {P : Program} {t e : TypeId} {z : Nat} {good : D → Prop} (ht : P.underlying t = some (.slice e)) (he : Reads P e z good) (hc : P.cellsOf e = z) (hz : 0 < z) {H : Type} {enc : TypeId × Value → H} {w : World}
    {r : Reach} {b0 : Nat} {v : Value} {d : DataW H} {ps : List MemPlace} (hv : Value.okWide P w r b0 t v) (h : DataW.Trod enc P w 0 (fun _ => true) true t v d ps) :
    ∃ l : List D, (∀ d ∈ l, good d) ∧ l.length ≤ 2 ^ 63 - 1 ∧ Rl w.heap (allB w) [] (.imm z (sq l) false) true [v] := by
  obtain ⟨fuel, h⟩ := h
  have hok : Cell.ok P w r b0 t v := by
    unfold Value.okWide at hv
    rw [ht] at hv
    simp only [Cell.okWide, ht] at hv
    exact hv
  have hform : v = .slice none 0 0 ∨ ∃ a len cap, v = .slice (some a) len cap ∧ len ≤ cap ∧ (cap : Int) ≤ IntKind.i64.max ∧ a.spot = none := by
    unfold Cell.ok at hok
    rw [ht] at hok
    split at hok <;> try exact hok.elim
    all_goals first
      | (rename_i heq; cases heq; done)
      | skip
    · exact .inl rfl
    · exact .inr ⟨_, _, _, rfl, hok.1, hok.2.1, hok.2.2.2.1⟩
  rcases hform with rfl | ⟨a, len, cap, rfl, hlc, hcm, hspot⟩
  · exact ⟨[], by simp, by simp, _, rfl, .nil, rfl, ⟨trivial, trivial, fun _ => rfl, rfl, rfl, rfl⟩, fun h => by cases h⟩
  · obtain ⟨b, o, sp⟩ := a
    simp only at hspot
    subst hspot
    have hcm' : cap ≤ 2 ^ 63 - 1 := by
      have : IntKind.i64.max = 2 ^ 63 - 1 := by decide
      omega
    rcases cap with _ | cap
    · obtain rfl : len = 0 := by omega
      exact ⟨[], by simp, by simp, _, rfl, .nil, rfl, ⟨trivial, trivial, fun _ => rfl, rfl, rfl, rfl⟩, fun h => by cases h⟩
    · rcases DataW.trod_slice ht h with ⟨h0, _⟩ | ⟨a, len', cap', elems, rest, n, _, h0, _, hb, hl, hm, hlen, hel, hsp, _⟩
      · simp [Value.cells] at h0
      · simp only [Value.cells, List.cons.injEq, Value.slice.injEq, Option.some.injEq, and_true] at h0
        obtain ⟨rfl, rfl, rfl⟩ := h0
        obtain ⟨hsp1, hsp2⟩ := hsp rfl
        have hadd : ∀ k, (⟨b, o, none⟩ : Addr).add k = ⟨b, o + k, none⟩ := fun k => by unfold Addr.add; split <;> simp_all
        rw [hc] at hel hsp2
        -- every element reads
        have each : ∀ i, i < cap + 1 → ∃ cs, w.cells? 0 ((⟨b, o, none⟩ : Addr).add (i * z)) z = some cs ∧ ∃ y, DataW.trod enc P w 0 (fun _ => true) true n e cs = some y := fun i hi => by
          by_cases h1 : i < len
          · have h2 := hel i h1
            rw [List.getElem?_eq_getElem (by omega)] at h2
            obtain ⟨cs, h3, h4⟩ := Option.bind_eq_some_iff.1 h2
            exact ⟨cs, h3, _, h4⟩
          · have h2 := hsp2 (i - len) (by omega)
            rw [List.getElem?_eq_getElem (by omega), show len + (i - len) = i by omega] at h2
            obtain ⟨cs, h3, h4⟩ := Option.bind_eq_some_iff.1 h2
            exact ⟨cs, h3, _, h4⟩
        -- the row
        obtain ⟨csl, hl1, _⟩ := each cap (by omega)
        obtain ⟨hl2, hl3⟩ := cells?_at hl1
        have hl4 := hl3 (z - 1) _ (List.getElem?_eq_getElem (by omega))
        rw [hadd] at hl4
        have hadd2 : ∀ (o' k : Nat), (⟨b, o', none⟩ : Addr).add k = ⟨b, o' + k, none⟩ := fun o' k => by unfold Addr.add; split <;> simp_all
        rw [hadd2] at hl4
        obtain ⟨row, e', fr, hrow⟩ : ∃ row e' fr, w.heap[b]? = some (.cells row e' fr) := by
          unfold World.cell? at hl4
          split at hl4
          · rename_i c _ _ heq; exact ⟨_, _, _, heq⟩
          · cases hl4
        have cell : ∀ k v, w.cell? ⟨b, k, none⟩ = some v → row[k]? = some v := fun k v hk => by
          unfold World.cell? at hk
          simp only [hrow] at hk
          simpa using hk
        have hblt : b < w.heap.size := by
          rcases Nat.lt_or_ge b w.heap.size with h' | h'
          · exact h'
          · rw [Array.getElem?_eq_none h'] at hrow; cases hrow
        have hsz : o + (cap + 1) * z ≤ row.size := by
          have h5 := cell _ _ hl4
          have h6 := (Array.getElem?_eq_some_iff.1 h5).1
          rw [Nat.add_mul]; omega
        obtain ⟨s, l, s1, s2, s3, s4, s5, s6, s7, s8⟩ := reads_elems (enc := enc) (w := w) (n := n) (at_ := fun i => (w.cells? 0 ((⟨b, o, none⟩ : Addr).add (i * z)) z).getD []) he len 0 fun i hi => by
          obtain ⟨cs, h1, h2⟩ := each (0 + i) (by omega)
          rw [h1]; exact h2
        refine ⟨l, s7, by omega, _, rfl, s, s5, ⟨s1, s3, fun _ => s2, rfl, s4.symm, hlc, hcm', fun _ => hblt, row, e', fr, hrow, (fun h => by cases h), hsz, fun j v hj => ?_⟩, fun h => by cases h⟩
        rw [s8] at hj
        obtain ⟨c, c1, c2⟩ := flat_at hz _ (fun c hcm => by
          obtain ⟨i, hi, rfl⟩ := List.mem_map.1 hcm
          obtain ⟨cs, h1, _⟩ := each (0 + i) (by have := List.mem_range.1 hi; omega)
          rw [h1]; exact (cells?_at h1).1) j v hj
        rw [List.getElem?_map] at c1
        cases hr : (List.range len)[j / z]? with
        | none => rw [hr] at c1; cases c1
        | some i =>
          rw [hr] at c1
          obtain ⟨hi1, hi2⟩ := List.getElem?_eq_some_iff.1 hr
          simp only [List.length_range] at hi1
          simp only [List.getElem_range] at hi2
          subst hi2
          obtain ⟨cs, h1, _⟩ := each (0 + j / z) (by omega)
          simp only [Option.map_some, Option.some.injEq, h1, Option.getD_some] at c1
          subst c1
          have h2 := (cells?_at h1).2 _ _ c2
          rw [hadd, hadd2] at h2
          have h3 := cell _ _ h2
          rw [← h3]
          congr 1
          have := Nat.div_add_mod j z
          rw [Nat.mul_comm] at this
          simp only [Nat.zero_add]
          omega
end Go.Vc
