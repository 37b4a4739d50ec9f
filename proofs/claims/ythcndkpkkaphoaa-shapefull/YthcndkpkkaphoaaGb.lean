/- Asking, and adding a name. -/
import Derived.Test.YthcndkpkkaphoaaGa
namespace Go.Proofs.Ythcndkpkkaphoaa
set_option linter.all false
open Go.Vc Go.Proofs
set_option linter.unusedSimpArgs false
set_option maxRecDepth 100000
set_option maxHeartbeats 4000000

/- (*cabochon/shape.Space).ask -/
theorem ask_ok (S : Sp) (o : Int) (n : ByteArray) (change : Bool) : Meets Try.prog 40 [dSp S] (.cons (.ptr 0 [.d]) (.cons (.val (.int .i64 o)) (.cons (.val (.string n)) (.cons (.val (.bool change)) .nil))))
    fun av X κ => av = .val (.int .i64 (askOf S o n change)) ∧ X = [dSp S] ∧ κ = [] := by
  refine Meets.of_vs tabOk Try.func40 (body := ?_) ?_ (by kernel_rfl) Try.ntmps40 (rs := [.tmp 8]) (by kernel_rfl) rfl (by simp [AV.len]) (by simp only [envOf]; exact rfl) ?_
  rotate_left
  · rfl
  intro w0 I0 F0 hF
  repeat first
    | refine VS.seq ?_
    | refine VS.skip ?_
    | refine VS.block ?_
    | refine VS.nil ?_
    | refine blockN_normal ?_
    | refine loopN_normal ?_
    | refine VS.exit ?_
    | refine blockN_hit ?_
    | refine blockN_miss (by decide) ?_
    | refine loopN_exit ?_
    | refine ⟨⟨by omega, by omega⟩, ?_⟩
    | (refine VS.region tabOk (id := 0) [] (by kernel_rfl) ?_; generalize hK : VS _ _ _ = KK; simp [hF]; try subst hK; try (refine VS.keep [0, 1, 2, 3] ?_; generalize hK : VS _ _ _ = KK; simp; try subst hK))
    | (refine VS.region tabOk (id := 1) [] (by kernel_rfl) ?_; generalize hK : VS _ _ _ = KK; simp [hF]; try subst hK; try (refine VS.keep [0, 1, 2, 3, 9] ?_; generalize hK : VS _ _ _ = KK; simp; try subst hK))
    | (refine VS.region tabOk (id := 2) [] (by kernel_rfl) ?_; generalize hK : VS _ _ _ = KK; simp [hF]; try subst hK; try (refine VS.keep [8] ?_; generalize hK : VS _ _ _ = KK; simp; try subst hK))
    | (refine VS.region tabOk (id := 3) [(2, 17)] (by kernel_rfl) ?_; generalize hK : VS _ _ _ = KK; simp [hF]; try subst hK; try (refine VS.keep [0, 1, 3, 14] ?_; generalize hK : VS _ _ _ = KK; simp; try subst hK))
    | (refine VS.region tabOk (id := 4) [] (by kernel_rfl) ?_; generalize hK : VS _ _ _ = KK; simp [hF]; try subst hK; try (refine VS.keep [8] ?_; generalize hK : VS _ _ _ = KK; simp; try subst hK))
    | (refine VS.region tabOk (id := 5) [(1, 24)] (by kernel_rfl) ?_; generalize hK : VS _ _ _ = KK; simp [hF]; try subst hK; try (refine VS.keep [22] ?_; generalize hK : VS _ _ _ = KK; simp; try subst hK))
    | (refine VS.region tabOk (id := 6) [] (by kernel_rfl) ?_; generalize hK : VS _ _ _ = KK; simp [hF]; try subst hK; try (refine VS.keep [8] ?_; generalize hK : VS _ _ _ = KK; simp; try subst hK))
    | (refine VS.region tabOk (id := 7) [] (by kernel_rfl) ?_; generalize hK : VS _ _ _ = KK; simp [hF]; try subst hK; try (refine VS.keep [8] ?_; generalize hK : VS _ _ _ = KK; simp; try subst hK))
    | (refine VS.cond ?_; generalize hK1 : VS _ _ _ = KK1; generalize hK2 : VS _ _ _ = KK2; simp [hF]; try subst hK1; try subst hK2)
  refine (has_ok S o).call [(0, [])] (by simp) (by simp [hF, dSp]) (by simp [hF, dSp]) (by simp [hF, dSp]) ?_
  rintro av X κ ⟨rfl, rfl, rfl⟩
  generalize hK : VS _ _ _ = KK; simp [hF, dSp]; try subst hK
  repeat first
    | refine VS.seq ?_
    | refine VS.skip ?_
    | refine VS.block ?_
    | refine VS.nil ?_
    | refine blockN_normal ?_
    | refine loopN_normal ?_
    | refine VS.exit ?_
    | refine blockN_hit ?_
    | refine blockN_miss (by decide) ?_
    | refine loopN_exit ?_
    | refine ⟨⟨by omega, by omega⟩, ?_⟩
    | (refine VS.region tabOk (id := 0) [] (by kernel_rfl) ?_; generalize hK : VS _ _ _ = KK; simp [hF]; try subst hK; try (refine VS.keep [0, 1, 2, 3] ?_; generalize hK : VS _ _ _ = KK; simp; try subst hK))
    | (refine VS.region tabOk (id := 1) [] (by kernel_rfl) ?_; generalize hK : VS _ _ _ = KK; simp [hF]; try subst hK; try (refine VS.keep [0, 1, 2, 3, 9] ?_; generalize hK : VS _ _ _ = KK; simp; try subst hK))
    | (refine VS.region tabOk (id := 2) [] (by kernel_rfl) ?_; generalize hK : VS _ _ _ = KK; simp [hF]; try subst hK; try (refine VS.keep [8] ?_; generalize hK : VS _ _ _ = KK; simp; try subst hK))
    | (refine VS.region tabOk (id := 3) [(2, 17)] (by kernel_rfl) ?_; generalize hK : VS _ _ _ = KK; simp [hF]; try subst hK; try (refine VS.keep [0, 1, 3, 14] ?_; generalize hK : VS _ _ _ = KK; simp; try subst hK))
    | (refine VS.region tabOk (id := 4) [] (by kernel_rfl) ?_; generalize hK : VS _ _ _ = KK; simp [hF]; try subst hK; try (refine VS.keep [8] ?_; generalize hK : VS _ _ _ = KK; simp; try subst hK))
    | (refine VS.region tabOk (id := 5) [(1, 24)] (by kernel_rfl) ?_; generalize hK : VS _ _ _ = KK; simp [hF]; try subst hK; try (refine VS.keep [22] ?_; generalize hK : VS _ _ _ = KK; simp; try subst hK))
    | (refine VS.region tabOk (id := 6) [] (by kernel_rfl) ?_; generalize hK : VS _ _ _ = KK; simp [hF]; try subst hK; try (refine VS.keep [8] ?_; generalize hK : VS _ _ _ = KK; simp; try subst hK))
    | (refine VS.region tabOk (id := 7) [] (by kernel_rfl) ?_; generalize hK : VS _ _ _ = KK; simp [hF]; try subst hK; try (refine VS.keep [8] ?_; generalize hK : VS _ _ _ = KK; simp; try subst hK))
    | (refine VS.cond ?_; generalize hK1 : VS _ _ _ = KK1; generalize hK2 : VS _ _ _ = KK2; simp [hF]; try subst hK1; try subst hK2)
  refine ⟨fun h => ?_, fun h => ?_⟩
  · repeat first
      | refine VS.seq ?_
      | refine VS.skip ?_
      | refine VS.block ?_
      | refine VS.nil ?_
      | refine blockN_normal ?_
      | refine loopN_normal ?_
      | refine VS.exit ?_
      | refine blockN_hit ?_
      | refine blockN_miss (by decide) ?_
      | refine loopN_exit ?_
      | refine ⟨⟨by omega, by omega⟩, ?_⟩
      | (refine VS.region tabOk (id := 0) [] (by kernel_rfl) ?_; generalize hK : VS _ _ _ = KK; simp [hF]; try subst hK; try (refine VS.keep [0, 1, 2, 3] ?_; generalize hK : VS _ _ _ = KK; simp; try subst hK))
      | (refine VS.region tabOk (id := 1) [] (by kernel_rfl) ?_; generalize hK : VS _ _ _ = KK; simp [hF]; try subst hK; try (refine VS.keep [0, 1, 2, 3, 9] ?_; generalize hK : VS _ _ _ = KK; simp; try subst hK))
      | (refine VS.region tabOk (id := 2) [] (by kernel_rfl) ?_; generalize hK : VS _ _ _ = KK; simp [hF]; try subst hK; try (refine VS.keep [8] ?_; generalize hK : VS _ _ _ = KK; simp; try subst hK))
      | (refine VS.region tabOk (id := 3) [(2, 17)] (by kernel_rfl) ?_; generalize hK : VS _ _ _ = KK; simp [hF]; try subst hK; try (refine VS.keep [0, 1, 3, 14] ?_; generalize hK : VS _ _ _ = KK; simp; try subst hK))
      | (refine VS.region tabOk (id := 4) [] (by kernel_rfl) ?_; generalize hK : VS _ _ _ = KK; simp [hF]; try subst hK; try (refine VS.keep [8] ?_; generalize hK : VS _ _ _ = KK; simp; try subst hK))
      | (refine VS.region tabOk (id := 5) [(1, 24)] (by kernel_rfl) ?_; generalize hK : VS _ _ _ = KK; simp [hF]; try subst hK; try (refine VS.keep [22] ?_; generalize hK : VS _ _ _ = KK; simp; try subst hK))
      | (refine VS.region tabOk (id := 6) [] (by kernel_rfl) ?_; generalize hK : VS _ _ _ = KK; simp [hF]; try subst hK; try (refine VS.keep [8] ?_; generalize hK : VS _ _ _ = KK; simp; try subst hK))
      | (refine VS.region tabOk (id := 7) [] (by kernel_rfl) ?_; generalize hK : VS _ _ _ = KK; simp [hF]; try subst hK; try (refine VS.keep [8] ?_; generalize hK : VS _ _ _ = KK; simp; try subst hK))
      | (refine VS.cond ?_; generalize hK1 : VS _ _ _ = KK1; generalize hK2 : VS _ _ _ = KK2; simp [hF]; try subst hK1; try subst hK2)
    try refine VS.ret ?_
    repeat first | refine blockN_ret ?_ | refine loopN_ret ?_
    refine endK.of [8] [0] [] (by simp [hF]) (by simp [covers, mpre]) ?_
    simp [hF, retK, dSp, askOf, h]
  · obtain ⟨j, rfl, hj, h0⟩ := hasB_true h
    repeat' first
      | refine VS.seq ?_
      | refine VS.skip ?_
      | refine VS.block ?_
      | refine VS.nil ?_
      | refine blockN_normal ?_
      | refine loopN_normal ?_
      | refine VS.exit ?_
      | refine blockN_hit ?_
      | refine blockN_miss (by decide) ?_
      | refine loopN_exit ?_
      | refine ⟨⟨by omega, by omega⟩, ?_⟩
      | (refine VS.region tabOk (id := 0) [] (by kernel_rfl) ?_; generalize hK : VS _ _ _ = KK; simp [hF, dSp, dObs_at hj, hj, h]; try subst hK; try (refine VS.keep [0, 1, 2, 3] ?_; generalize hK : VS _ _ _ = KK; simp; try subst hK))
      | (refine VS.region tabOk (id := 1) [] (by kernel_rfl) ?_; generalize hK : VS _ _ _ = KK; simp [hF, dSp, dObs_at hj, hj, h]; try subst hK; try (refine VS.keep [0, 1, 2, 3, 9] ?_; generalize hK : VS _ _ _ = KK; simp; try subst hK))
      | (refine VS.region tabOk (id := 2) [] (by kernel_rfl) ?_; generalize hK : VS _ _ _ = KK; simp [hF, dSp, dObs_at hj, hj, h]; try subst hK; try (refine VS.keep [8] ?_; generalize hK : VS _ _ _ = KK; simp; try subst hK))
      | (refine VS.region tabOk (id := 3) [(2, 17)] (by kernel_rfl) ?_; generalize hK : VS _ _ _ = KK; simp [hF, dSp, dObs_at hj, hj, h]; try subst hK; try (refine VS.keep [0, 1, 3, 14] ?_; generalize hK : VS _ _ _ = KK; simp; try subst hK))
      | (refine VS.region tabOk (id := 4) [] (by kernel_rfl) ?_; generalize hK : VS _ _ _ = KK; simp [hF, dSp, dObs_at hj, hj, h]; try subst hK; try (refine VS.keep [8] ?_; generalize hK : VS _ _ _ = KK; simp; try subst hK))
      | (refine VS.region tabOk (id := 5) [(1, 24)] (by kernel_rfl) ?_; generalize hK : VS _ _ _ = KK; simp [hF, dSp, dObs_at hj, hj, h]; try subst hK; try (refine VS.keep [22] ?_; generalize hK : VS _ _ _ = KK; simp; try subst hK))
      | (refine VS.region tabOk (id := 6) [] (by kernel_rfl) ?_; generalize hK : VS _ _ _ = KK; simp [hF, dSp, dObs_at hj, hj, h]; try subst hK; try (refine VS.keep [8] ?_; generalize hK : VS _ _ _ = KK; simp; try subst hK))
      | (refine VS.region tabOk (id := 7) [] (by kernel_rfl) ?_; generalize hK : VS _ _ _ = KK; simp [hF, dSp, dObs_at hj, hj, h]; try subst hK; try (refine VS.keep [8] ?_; generalize hK : VS _ _ _ = KK; simp; try subst hK))
      | (refine VS.cond ?_; generalize hK1 : VS _ _ _ = KK1; generalize hK2 : VS _ _ _ = KK2; simp [hF, dSp, dObs_at hj, hj, h]; try subst hK1; try subst hK2)
      | refine And.intro (fun _ => ?_) (fun _ => ?_)
      | refine And.intro ?_ ?_
      | refine fun _ => ?_
    all_goals try refine VS.ret ?_
    all_goals repeat first | refine blockN_ret ?_ | refine loopN_ret ?_
    all_goals refine endK.of [8] [0] [] (by simp [hF]) (by simp [covers, mpre]) ?_
    all_goals simp [hF, retK, dSp, askOf, h, obAt_eq hj, *]
    all_goals omega

abbrev addK : List (Nat × Path) := [(0, [.d, .f 0]), (0, [.d, .f 1, .i 0, .f 1]), (0, [.d, .f 1, .i 0, .f 2])]

/- (*cabochon/shape.Space).add -/
theorem add_ok (S : Sp) (hS : ShOk S.shapes) (j : Nat) (hj : j < S.objs.length) {N : Nat} (ho : ObOk S.shapes N S.objs[j]) (hN : N < 1000000) (n : ByteArray) (w : Int) : Meets Try.prog 43 [dSp S] (.cons (.ptr 0 [.d]) (.cons (.ptr 0 [.d, .f 1, .i j]) (.cons (.val (.string n)) (.cons (.val (.int .i64 w)) .nil))))
    fun av X κ => av = .tup .nil ∧ X = [dSp (addOf S j S.objs[j] n w)] ∧ κ = addK := by
  refine Meets.of_vs tabOk Try.func43 (body := ?_) ?_ (by kernel_rfl) Try.ntmps43 (rs := []) (by kernel_rfl) rfl (by simp [AV.len]) (by simp only [envOf]; exact rfl) ?_
  rotate_left
  · rfl
  intro w0 I0 F0 hF
  repeat first
    | refine VS.seq ?_
    | refine VS.skip ?_
    | refine VS.block ?_
    | refine VS.nil ?_
    | refine blockN_normal ?_
    | refine loopN_normal ?_
    | refine VS.exit ?_
    | refine blockN_hit ?_
    | refine blockN_miss (by decide) ?_
    | refine loopN_exit ?_
    | refine ⟨⟨by omega, by omega⟩, ?_⟩
    | (refine VS.region tabOk (id := 0) [] (by kernel_rfl) ?_; generalize hK : VS _ _ _ = KK; simp [hF, dSp, dObs_at hj, hj]; try subst hK; try (refine VS.keep [0, 1, 2, 3, 8] ?_; generalize hK : VS _ _ _ = KK; simp; try subst hK))
    | (refine VS.region tabOk (id := 1) [] (by kernel_rfl) ?_; generalize hK : VS _ _ _ = KK; simp [hF, dSp, dObs_at hj, hj]; try subst hK; try (refine VS.keep [0, 1, 2, 8] ?_; generalize hK : VS _ _ _ = KK; simp; try subst hK))
    | (refine VS.region tabOk (id := 2) [] (by kernel_rfl) ?_; generalize hK : VS _ _ _ = KK; simp [hF, dSp, dObs_at hj, hj]; try subst hK; try (refine VS.keep [0, 1, 2, 8, 30] ?_; generalize hK : VS _ _ _ = KK; simp; try subst hK))
    | (refine VS.region tabOk (id := 3) [] (by kernel_rfl) ?_; generalize hK : VS _ _ _ = KK; simp [hF, dSp, dObs_at hj, hj]; try subst hK; try (refine VS.keep [] ?_; generalize hK : VS _ _ _ = KK; simp; try subst hK))
    | (refine VS.region tabOk (id := 4) [] (by kernel_rfl) ?_; generalize hK : VS _ _ _ = KK; simp [hF, dSp, dObs_at hj, hj]; try subst hK; try (refine VS.keep [0, 1, 2, 8, 9] ?_; generalize hK : VS _ _ _ = KK; simp; try subst hK))
    | (refine VS.region tabOk (id := 5) [(3, 49), (6, 52)] (by kernel_rfl) ?_; generalize hK : VS _ _ _ = KK; simp [hF, dSp, dObs_at hj, hj]; try subst hK; try (refine VS.keep [0, 1, 2, 8, 9, 45] ?_; generalize hK : VS _ _ _ = KK; simp; try subst hK))
    | (refine VS.region tabOk (id := 6) [] (by kernel_rfl) ?_; generalize hK : VS _ _ _ = KK; simp [hF, dSp, dObs_at hj, hj]; try subst hK; try (refine VS.keep [] ?_; generalize hK : VS _ _ _ = KK; simp; try subst hK))
    | (refine VS.region tabOk (id := 7) [] (by kernel_rfl) ?_; generalize hK : VS _ _ _ = KK; simp [hF, dSp, dObs_at hj, hj]; try subst hK; try (refine VS.keep [0, 1, 2, 9, 71] ?_; generalize hK : VS _ _ _ = KK; simp; try subst hK))
    | (refine VS.region tabOk (id := 8) [] (by kernel_rfl) ?_; generalize hK : VS _ _ _ = KK; simp [hF, dSp, dObs_at hj, hj]; try subst hK; try (refine VS.keep [0, 1, 2, 9] ?_; generalize hK : VS _ _ _ = KK; simp; try subst hK))
    | (refine VS.drawn tabOk mixedOk (id := 9) [] [⟨0, 1, 604462909807314587353088, 5⟩, ⟨0, 1, 1208925819614629174706176, 5⟩, ⟨2, 1208925819614629174706176, 2417851639229258349412352, 5⟩, ⟨4, 2417851639229258349412352, 4835703278458516698824704, 5⟩, ⟨8, 4835703278458516698824704, 9671406556917033397649408, 6⟩, ⟨0, 2, 19342813113834066795298816, 5⟩, ⟨32, 19342813113834066795298816, 38685626227668133590597632, 5⟩, ⟨64, 38685626227668133590597632, 77371252455336267181195264, 5⟩, ⟨128, 77371252455336267181195264, 154742504910672534362390528, 6⟩, ⟨0, 4, 309485009821345068724781056, 5⟩, ⟨768, 464227514732017603087171584, 618970019642690137449562112, 5⟩, ⟨1024, 618970019642690137449562112, 1237940039285380274899124224, 4⟩, ⟨2064, 1247611445842297308296773632, 2475880078570760549798248448, 0⟩, ⟨8191, 604462909807314587353088, 4951760157141521099596496896, 5⟩, ⟨16383, 4951760157141521099596496896, 9903520314283042199192993792, 5⟩, ⟨24575, 12379400392853802748991242240, 0, 0⟩] (.take 0 (.take 1 (.take 2 (.take 3 (.take 4 (.take 5 (.take 6 (.take 7 (.take 8 (.take 9 (.take 10 (.fork (.alt 11 (.fork (.alt 12 (.take 13 (.take 14 (.fork (.alt 15 (.done) (.nil))))) (.nil))) (.nil)))))))))))))) (.run [0, 1, 2, 3, 4, 5, 6, 7, 8, 9, 10, 11, 12, 13, 14, 15] (.done)) (by kernel_rfl) (by kernel_rfl) (by kernel_rfl) ?_; generalize hK : VS _ _ _ = KK; simp only [opsVc_run, opsVc_both, opsVc_done, opsVc_yes, pick_cons, pick_nil, List.getElem?_cons_zero, List.getElem?_cons_succ]; simp [hF, dSp, dObs_at hj, hj]; try subst hK; try (refine VS.keep [1, 9] ?_; generalize hK : VS _ _ _ = KK; simp; try subst hK))
    | (refine VS.region tabOk (id := 10) [] (by kernel_rfl) ?_; generalize hK : VS _ _ _ = KK; simp [hF, dSp, dObs_at hj, hj]; try subst hK; try (refine VS.keep [] ?_; generalize hK : VS _ _ _ = KK; simp; try subst hK))
    | (refine VS.cond ?_; generalize hK1 : VS _ _ _ = KK1; generalize hK2 : VS _ _ _ = KK2; simp [hF, dSp, dObs_at hj, hj]; try subst hK1; try subst hK2)
  have hsize := ho.names_len
  refine (names_ok S hS j hj ho (by omega)).call [(0, [])] (by simp) (by simp [hF, dSp, avOb, dObs_at hj, hj]) (by simp [hF, dSp, avOb, dObs_at hj, hj]) (by simp [hF, dSp, avOb, dObs_at hj, hj]) ?_
  rintro av X κ ⟨rfl, rfl, rfl⟩
  generalize hK : VS _ _ _ = KK; simp [hF, dSp, avOb, dObs_at hj, hj]; try subst hK
  repeat first
    | refine VS.seq ?_
    | refine VS.skip ?_
    | refine VS.block ?_
    | refine VS.nil ?_
    | refine blockN_normal ?_
    | refine loopN_normal ?_
    | refine VS.exit ?_
    | refine blockN_hit ?_
    | refine blockN_miss (by decide) ?_
    | refine loopN_exit ?_
    | refine ⟨⟨by omega, by omega⟩, ?_⟩
    | (refine VS.region tabOk (id := 0) [] (by kernel_rfl) ?_; generalize hK : VS _ _ _ = KK; simp [hF, dSp, dObs_at hj, hj]; try subst hK; try (refine VS.keep [0, 1, 2, 3, 8] ?_; generalize hK : VS _ _ _ = KK; simp; try subst hK))
    | (refine VS.region tabOk (id := 1) [] (by kernel_rfl) ?_; generalize hK : VS _ _ _ = KK; simp [hF, dSp, dObs_at hj, hj]; try subst hK; try (refine VS.keep [0, 1, 2, 8] ?_; generalize hK : VS _ _ _ = KK; simp; try subst hK))
    | (refine VS.region tabOk (id := 2) [] (by kernel_rfl) ?_; generalize hK : VS _ _ _ = KK; simp [hF, dSp, dObs_at hj, hj]; try subst hK; try (refine VS.keep [0, 1, 2, 8, 30] ?_; generalize hK : VS _ _ _ = KK; simp; try subst hK))
    | (refine VS.region tabOk (id := 3) [] (by kernel_rfl) ?_; generalize hK : VS _ _ _ = KK; simp [hF, dSp, dObs_at hj, hj]; try subst hK; try (refine VS.keep [] ?_; generalize hK : VS _ _ _ = KK; simp; try subst hK))
    | (refine VS.region tabOk (id := 4) [] (by kernel_rfl) ?_; generalize hK : VS _ _ _ = KK; simp [hF, dSp, dObs_at hj, hj]; try subst hK; try (refine VS.keep [0, 1, 2, 8, 9] ?_; generalize hK : VS _ _ _ = KK; simp; try subst hK))
    | (refine VS.region tabOk (id := 5) [(3, 49), (6, 52)] (by kernel_rfl) ?_; generalize hK : VS _ _ _ = KK; simp [hF, dSp, dObs_at hj, hj]; try subst hK; try (refine VS.keep [0, 1, 2, 8, 9, 45] ?_; generalize hK : VS _ _ _ = KK; simp; try subst hK))
    | (refine VS.region tabOk (id := 6) [] (by kernel_rfl) ?_; generalize hK : VS _ _ _ = KK; simp [hF, dSp, dObs_at hj, hj]; try subst hK; try (refine VS.keep [] ?_; generalize hK : VS _ _ _ = KK; simp; try subst hK))
    | (refine VS.region tabOk (id := 7) [] (by kernel_rfl) ?_; generalize hK : VS _ _ _ = KK; simp [hF, dSp, dObs_at hj, hj]; try subst hK; try (refine VS.keep [0, 1, 2, 9, 71] ?_; generalize hK : VS _ _ _ = KK; simp; try subst hK))
    | (refine VS.region tabOk (id := 8) [] (by kernel_rfl) ?_; generalize hK : VS _ _ _ = KK; simp [hF, dSp, dObs_at hj, hj]; try subst hK; try (refine VS.keep [0, 1, 2, 9] ?_; generalize hK : VS _ _ _ = KK; simp; try subst hK))
    | (refine VS.drawn tabOk mixedOk (id := 9) [] [⟨0, 1, 604462909807314587353088, 5⟩, ⟨0, 1, 1208925819614629174706176, 5⟩, ⟨2, 1208925819614629174706176, 2417851639229258349412352, 5⟩, ⟨4, 2417851639229258349412352, 4835703278458516698824704, 5⟩, ⟨8, 4835703278458516698824704, 9671406556917033397649408, 6⟩, ⟨0, 2, 19342813113834066795298816, 5⟩, ⟨32, 19342813113834066795298816, 38685626227668133590597632, 5⟩, ⟨64, 38685626227668133590597632, 77371252455336267181195264, 5⟩, ⟨128, 77371252455336267181195264, 154742504910672534362390528, 6⟩, ⟨0, 4, 309485009821345068724781056, 5⟩, ⟨768, 464227514732017603087171584, 618970019642690137449562112, 5⟩, ⟨1024, 618970019642690137449562112, 1237940039285380274899124224, 4⟩, ⟨2064, 1247611445842297308296773632, 2475880078570760549798248448, 0⟩, ⟨8191, 604462909807314587353088, 4951760157141521099596496896, 5⟩, ⟨16383, 4951760157141521099596496896, 9903520314283042199192993792, 5⟩, ⟨24575, 12379400392853802748991242240, 0, 0⟩] (.take 0 (.take 1 (.take 2 (.take 3 (.take 4 (.take 5 (.take 6 (.take 7 (.take 8 (.take 9 (.take 10 (.fork (.alt 11 (.fork (.alt 12 (.take 13 (.take 14 (.fork (.alt 15 (.done) (.nil))))) (.nil))) (.nil)))))))))))))) (.run [0, 1, 2, 3, 4, 5, 6, 7, 8, 9, 10, 11, 12, 13, 14, 15] (.done)) (by kernel_rfl) (by kernel_rfl) (by kernel_rfl) ?_; generalize hK : VS _ _ _ = KK; simp only [opsVc_run, opsVc_both, opsVc_done, opsVc_yes, pick_cons, pick_nil, List.getElem?_cons_zero, List.getElem?_cons_succ]; simp [hF, dSp, dObs_at hj, hj]; try subst hK; try (refine VS.keep [1, 9] ?_; generalize hK : VS _ _ _ = KK; simp; try subst hK))
    | (refine VS.region tabOk (id := 10) [] (by kernel_rfl) ?_; generalize hK : VS _ _ _ = KK; simp [hF, dSp, dObs_at hj, hj]; try subst hK; try (refine VS.keep [] ?_; generalize hK : VS _ _ _ = KK; simp; try subst hK))
    | (refine VS.cond ?_; generalize hK1 : VS _ _ _ = KK1; generalize hK2 : VS _ _ _ = KK2; simp [hF, dSp, dObs_at hj, hj]; try subst hK1; try subst hK2)
  refine (clipInt_ok true false S.objs[j].words).call [(0, [.d, .f 1, .i j, .f 2])] (by simp) (by simp [hF, dSp, dObs_at hj, hj, setN_of (dObs_at hj), dInts_app1]) (by simp [hF, dSp, dObs_at hj, hj, setN_of (dObs_at hj), dInts_app1]) (by simp [hF, dSp, dObs_at hj, hj, setN_of (dObs_at hj), dInts_app1]) ?_
  rintro av X κ ⟨rfl, rfl, rfl⟩
  generalize hK : VS _ _ _ = KK; simp [hF, dSp, dObs_at hj, hj, setN_of (dObs_at hj), dInts_app1]; try subst hK
  have hjl : j < (dObs S.objs).len := by simpa using hj
  have hwl := ho.1
  repeat first
    | refine VS.seq ?_
    | refine VS.skip ?_
    | refine VS.block ?_
    | refine VS.nil ?_
    | refine blockN_normal ?_
    | refine loopN_normal ?_
    | refine VS.exit ?_
    | refine blockN_hit ?_
    | refine blockN_miss (by decide) ?_
    | refine loopN_exit ?_
    | refine ⟨⟨by omega, by omega⟩, ?_⟩
    | (refine VS.region tabOk (id := 0) [] (by kernel_rfl) ?_; generalize hK : VS _ _ _ = KK; simp [hF, dSp, dObs_at hj, hj, T.nth_setN_same _ hjl]; try subst hK; try (refine VS.keep [0, 1, 2, 3, 8] ?_; generalize hK : VS _ _ _ = KK; simp; try subst hK))
    | (refine VS.region tabOk (id := 1) [] (by kernel_rfl) ?_; generalize hK : VS _ _ _ = KK; simp [hF, dSp, dObs_at hj, hj, T.nth_setN_same _ hjl]; try subst hK; try (refine VS.keep [0, 1, 2, 8] ?_; generalize hK : VS _ _ _ = KK; simp; try subst hK))
    | (refine VS.region tabOk (id := 2) [] (by kernel_rfl) ?_; generalize hK : VS _ _ _ = KK; simp [hF, dSp, dObs_at hj, hj, T.nth_setN_same _ hjl]; try subst hK; try (refine VS.keep [0, 1, 2, 8, 30] ?_; generalize hK : VS _ _ _ = KK; simp; try subst hK))
    | (refine VS.region tabOk (id := 3) [] (by kernel_rfl) ?_; generalize hK : VS _ _ _ = KK; simp [hF, dSp, dObs_at hj, hj, T.nth_setN_same _ hjl]; try subst hK; try (refine VS.keep [] ?_; generalize hK : VS _ _ _ = KK; simp; try subst hK))
    | (refine VS.region tabOk (id := 4) [] (by kernel_rfl) ?_; generalize hK : VS _ _ _ = KK; simp [hF, dSp, dObs_at hj, hj, T.nth_setN_same _ hjl]; try subst hK; try (refine VS.keep [0, 1, 2, 8, 9] ?_; generalize hK : VS _ _ _ = KK; simp; try subst hK))
    | (refine VS.region tabOk (id := 5) [(3, 49), (6, 52)] (by kernel_rfl) ?_; generalize hK : VS _ _ _ = KK; simp [hF, dSp, dObs_at hj, hj, T.nth_setN_same _ hjl]; try subst hK; try (refine VS.keep [0, 1, 2, 8, 9, 45] ?_; generalize hK : VS _ _ _ = KK; simp; try subst hK))
    | (refine VS.region tabOk (id := 6) [] (by kernel_rfl) ?_; generalize hK : VS _ _ _ = KK; simp [hF, dSp, dObs_at hj, hj, T.nth_setN_same _ hjl]; try subst hK; try (refine VS.keep [] ?_; generalize hK : VS _ _ _ = KK; simp; try subst hK))
    | (refine VS.region tabOk (id := 7) [] (by kernel_rfl) ?_; generalize hK : VS _ _ _ = KK; simp [hF, dSp, dObs_at hj, hj, T.nth_setN_same _ hjl]; try subst hK; try (refine VS.keep [0, 1, 2, 9, 71] ?_; generalize hK : VS _ _ _ = KK; simp; try subst hK))
    | (refine VS.region tabOk (id := 8) [] (by kernel_rfl) ?_; generalize hK : VS _ _ _ = KK; simp [hF, dSp, dObs_at hj, hj, T.nth_setN_same _ hjl]; try subst hK; try (refine VS.keep [0, 1, 2, 9] ?_; generalize hK : VS _ _ _ = KK; simp; try subst hK))
    | (refine VS.drawn tabOk mixedOk (id := 9) [] [⟨0, 1, 604462909807314587353088, 5⟩, ⟨0, 1, 1208925819614629174706176, 5⟩, ⟨2, 1208925819614629174706176, 2417851639229258349412352, 5⟩, ⟨4, 2417851639229258349412352, 4835703278458516698824704, 5⟩, ⟨8, 4835703278458516698824704, 9671406556917033397649408, 6⟩, ⟨0, 2, 19342813113834066795298816, 5⟩, ⟨32, 19342813113834066795298816, 38685626227668133590597632, 5⟩, ⟨64, 38685626227668133590597632, 77371252455336267181195264, 5⟩, ⟨128, 77371252455336267181195264, 154742504910672534362390528, 6⟩, ⟨0, 4, 309485009821345068724781056, 5⟩, ⟨768, 464227514732017603087171584, 618970019642690137449562112, 5⟩, ⟨1024, 618970019642690137449562112, 1237940039285380274899124224, 4⟩, ⟨2064, 1247611445842297308296773632, 2475880078570760549798248448, 0⟩, ⟨8191, 604462909807314587353088, 4951760157141521099596496896, 5⟩, ⟨16383, 4951760157141521099596496896, 9903520314283042199192993792, 5⟩, ⟨24575, 12379400392853802748991242240, 0, 0⟩] (.take 0 (.take 1 (.take 2 (.take 3 (.take 4 (.take 5 (.take 6 (.take 7 (.take 8 (.take 9 (.take 10 (.fork (.alt 11 (.fork (.alt 12 (.take 13 (.take 14 (.fork (.alt 15 (.done) (.nil))))) (.nil))) (.nil)))))))))))))) (.run [0, 1, 2, 3, 4, 5, 6, 7, 8, 9, 10, 11, 12, 13, 14, 15] (.done)) (by kernel_rfl) (by kernel_rfl) (by kernel_rfl) ?_; generalize hK : VS _ _ _ = KK; simp only [opsVc_run, opsVc_both, opsVc_done, opsVc_yes, pick_cons, pick_nil, List.getElem?_cons_zero, List.getElem?_cons_succ]; simp [hF, dSp, dObs_at hj, hj, T.nth_setN_same _ hjl]; try subst hK; try (refine VS.keep [1, 9] ?_; generalize hK : VS _ _ _ = KK; simp; try subst hK))
    | (refine VS.region tabOk (id := 10) [] (by kernel_rfl) ?_; generalize hK : VS _ _ _ = KK; simp [hF, dSp, dObs_at hj, hj, T.nth_setN_same _ hjl]; try subst hK; try (refine VS.keep [] ?_; generalize hK : VS _ _ _ = KK; simp; try subst hK))
    | (refine VS.cond ?_; generalize hK1 : VS _ _ _ = KK1; generalize hK2 : VS _ _ _ = KK2; simp [hF, dSp, dObs_at hj, hj, T.nth_setN_same _ hjl]; try subst hK1; try subst hK2)
  have e2 := (dObs_set S.objs j (addOb S.shapes S.objs[j] n w)).symm
  refine ⟨fun hc => ?_, fun hc => ?_⟩
  · repeat first
      | refine VS.seq ?_
      | refine VS.skip ?_
      | refine VS.block ?_
      | refine VS.nil ?_
      | refine blockN_normal ?_
      | refine loopN_normal ?_
      | refine VS.exit ?_
      | refine blockN_hit ?_
      | refine blockN_miss (by decide) ?_
      | refine loopN_exit ?_
      | refine ⟨⟨by omega, by omega⟩, ?_⟩
      | (refine VS.region tabOk (id := 0) [] (by kernel_rfl) ?_; generalize hK : VS _ _ _ = KK; simp [hF, dSp, dObs_at hj, hj, T.nth_setN_same _ hjl]; try subst hK; try (refine VS.keep [0, 1, 2, 3, 8] ?_; generalize hK : VS _ _ _ = KK; simp; try subst hK))
      | (refine VS.region tabOk (id := 1) [] (by kernel_rfl) ?_; generalize hK : VS _ _ _ = KK; simp [hF, dSp, dObs_at hj, hj, T.nth_setN_same _ hjl]; try subst hK; try (refine VS.keep [0, 1, 2, 8] ?_; generalize hK : VS _ _ _ = KK; simp; try subst hK))
      | (refine VS.region tabOk (id := 2) [] (by kernel_rfl) ?_; generalize hK : VS _ _ _ = KK; simp [hF, dSp, dObs_at hj, hj, T.nth_setN_same _ hjl]; try subst hK; try (refine VS.keep [0, 1, 2, 8, 30] ?_; generalize hK : VS _ _ _ = KK; simp; try subst hK))
      | (refine VS.region tabOk (id := 3) [] (by kernel_rfl) ?_; generalize hK : VS _ _ _ = KK; simp [hF, dSp, dObs_at hj, hj, T.nth_setN_same _ hjl]; try subst hK; try (refine VS.keep [] ?_; generalize hK : VS _ _ _ = KK; simp; try subst hK))
      | (refine VS.region tabOk (id := 4) [] (by kernel_rfl) ?_; generalize hK : VS _ _ _ = KK; simp [hF, dSp, dObs_at hj, hj, T.nth_setN_same _ hjl]; try subst hK; try (refine VS.keep [0, 1, 2, 8, 9] ?_; generalize hK : VS _ _ _ = KK; simp; try subst hK))
      | (refine VS.region tabOk (id := 5) [(3, 49), (6, 52)] (by kernel_rfl) ?_; generalize hK : VS _ _ _ = KK; simp [hF, dSp, dObs_at hj, hj, T.nth_setN_same _ hjl]; try subst hK; try (refine VS.keep [0, 1, 2, 8, 9, 45] ?_; generalize hK : VS _ _ _ = KK; simp; try subst hK))
      | (refine VS.region tabOk (id := 6) [] (by kernel_rfl) ?_; generalize hK : VS _ _ _ = KK; simp [hF, dSp, dObs_at hj, hj, T.nth_setN_same _ hjl]; try subst hK; try (refine VS.keep [] ?_; generalize hK : VS _ _ _ = KK; simp; try subst hK))
      | (refine VS.region tabOk (id := 7) [] (by kernel_rfl) ?_; generalize hK : VS _ _ _ = KK; simp [hF, dSp, dObs_at hj, hj, T.nth_setN_same _ hjl]; try subst hK; try (refine VS.keep [0, 1, 2, 9, 71] ?_; generalize hK : VS _ _ _ = KK; simp; try subst hK))
      | (refine VS.region tabOk (id := 8) [] (by kernel_rfl) ?_; generalize hK : VS _ _ _ = KK; simp [hF, dSp, dObs_at hj, hj, T.nth_setN_same _ hjl]; try subst hK; try (refine VS.keep [0, 1, 2, 9] ?_; generalize hK : VS _ _ _ = KK; simp; try subst hK))
      | (refine VS.drawn tabOk mixedOk (id := 9) [] [⟨0, 1, 604462909807314587353088, 5⟩, ⟨0, 1, 1208925819614629174706176, 5⟩, ⟨2, 1208925819614629174706176, 2417851639229258349412352, 5⟩, ⟨4, 2417851639229258349412352, 4835703278458516698824704, 5⟩, ⟨8, 4835703278458516698824704, 9671406556917033397649408, 6⟩, ⟨0, 2, 19342813113834066795298816, 5⟩, ⟨32, 19342813113834066795298816, 38685626227668133590597632, 5⟩, ⟨64, 38685626227668133590597632, 77371252455336267181195264, 5⟩, ⟨128, 77371252455336267181195264, 154742504910672534362390528, 6⟩, ⟨0, 4, 309485009821345068724781056, 5⟩, ⟨768, 464227514732017603087171584, 618970019642690137449562112, 5⟩, ⟨1024, 618970019642690137449562112, 1237940039285380274899124224, 4⟩, ⟨2064, 1247611445842297308296773632, 2475880078570760549798248448, 0⟩, ⟨8191, 604462909807314587353088, 4951760157141521099596496896, 5⟩, ⟨16383, 4951760157141521099596496896, 9903520314283042199192993792, 5⟩, ⟨24575, 12379400392853802748991242240, 0, 0⟩] (.take 0 (.take 1 (.take 2 (.take 3 (.take 4 (.take 5 (.take 6 (.take 7 (.take 8 (.take 9 (.take 10 (.fork (.alt 11 (.fork (.alt 12 (.take 13 (.take 14 (.fork (.alt 15 (.done) (.nil))))) (.nil))) (.nil)))))))))))))) (.run [0, 1, 2, 3, 4, 5, 6, 7, 8, 9, 10, 11, 12, 13, 14, 15] (.done)) (by kernel_rfl) (by kernel_rfl) (by kernel_rfl) ?_; generalize hK : VS _ _ _ = KK; simp only [opsVc_run, opsVc_both, opsVc_done, opsVc_yes, pick_cons, pick_nil, List.getElem?_cons_zero, List.getElem?_cons_succ]; simp [hF, dSp, dObs_at hj, hj, T.nth_setN_same _ hjl]; try subst hK; try (refine VS.keep [1, 9] ?_; generalize hK : VS _ _ _ = KK; simp; try subst hK))
      | (refine VS.region tabOk (id := 10) [] (by kernel_rfl) ?_; generalize hK : VS _ _ _ = KK; simp [hF, dSp, dObs_at hj, hj, T.nth_setN_same _ hjl]; try subst hK; try (refine VS.keep [] ?_; generalize hK : VS _ _ _ = KK; simp; try subst hK))
      | (refine VS.cond ?_; generalize hK1 : VS _ _ _ = KK1; generalize hK2 : VS _ _ _ = KK2; simp [hF, dSp, dObs_at hj, hj, T.nth_setN_same _ hjl]; try subst hK1; try subst hK2)
    try refine VS.ret ?_
    repeat first | refine blockN_ret ?_ | refine loopN_ret ?_
    refine endK.of [] [0] addK (by simp [hF]) (by simp [covers, mpre]) ?_
    simp [hF, retK, dSp, addOf]
    rw [e2]
    simp [addOb, stepSh, ownOf, hc]
  · have e1 : T.setN (dObs S.objs) j (.agg (.cons (.val (.int .i64 S.objs[j].shape)) (.cons (.sl true () 1 (dStrs (ownOf S.objs[j]))) (.cons (.sl true () 1 (dInts (S.objs[j].words ++ [w]))) (.cons (.val (.bool S.objs[j].frozen)) .nil))))) =
      dObs (S.objs.set j ⟨S.objs[j].shape, S.objs[j].names, S.objs[j].words ++ [w], S.objs[j].frozen⟩) := dObs_set S.objs j ⟨S.objs[j].shape, S.objs[j].names, S.objs[j].words ++ [w], S.objs[j].frozen⟩
    have hns := hS.ns
    repeat first
      | refine VS.seq ?_
      | refine VS.skip ?_
      | refine VS.block ?_
      | refine VS.nil ?_
      | refine blockN_normal ?_
      | refine loopN_normal ?_
      | refine VS.exit ?_
      | refine blockN_hit ?_
      | refine blockN_miss (by decide) ?_
      | refine loopN_exit ?_
      | refine ⟨⟨by omega, by omega⟩, ?_⟩
      | (refine VS.region tabOk (id := 0) [] (by kernel_rfl) ?_; generalize hK : VS _ _ _ = KK; simp [hF, dSp, dObs_at hj, hj, T.nth_setN_same _ hjl]; try subst hK; try (refine VS.keep [0, 1, 2, 3, 8] ?_; generalize hK : VS _ _ _ = KK; simp; try subst hK))
      | (refine VS.region tabOk (id := 1) [] (by kernel_rfl) ?_; generalize hK : VS _ _ _ = KK; simp [hF, dSp, dObs_at hj, hj, T.nth_setN_same _ hjl]; try subst hK; try (refine VS.keep [0, 1, 2, 8] ?_; generalize hK : VS _ _ _ = KK; simp; try subst hK))
      | (refine VS.region tabOk (id := 2) [] (by kernel_rfl) ?_; generalize hK : VS _ _ _ = KK; simp [hF, dSp, dObs_at hj, hj, T.nth_setN_same _ hjl]; try subst hK; try (refine VS.keep [0, 1, 2, 8, 30] ?_; generalize hK : VS _ _ _ = KK; simp; try subst hK))
      | (refine VS.region tabOk (id := 3) [] (by kernel_rfl) ?_; generalize hK : VS _ _ _ = KK; simp [hF, dSp, dObs_at hj, hj, T.nth_setN_same _ hjl]; try subst hK; try (refine VS.keep [] ?_; generalize hK : VS _ _ _ = KK; simp; try subst hK))
      | (refine VS.region tabOk (id := 4) [] (by kernel_rfl) ?_; generalize hK : VS _ _ _ = KK; simp [hF, dSp, dObs_at hj, hj, T.nth_setN_same _ hjl]; try subst hK; try (refine VS.keep [0, 1, 2, 8, 9] ?_; generalize hK : VS _ _ _ = KK; simp; try subst hK))
      | (refine VS.region tabOk (id := 5) [(3, 49), (6, 52)] (by kernel_rfl) ?_; generalize hK : VS _ _ _ = KK; simp [hF, dSp, dObs_at hj, hj, T.nth_setN_same _ hjl]; try subst hK; try (refine VS.keep [0, 1, 2, 8, 9, 45] ?_; generalize hK : VS _ _ _ = KK; simp; try subst hK))
      | (refine VS.region tabOk (id := 6) [] (by kernel_rfl) ?_; generalize hK : VS _ _ _ = KK; simp [hF, dSp, dObs_at hj, hj, T.nth_setN_same _ hjl]; try subst hK; try (refine VS.keep [] ?_; generalize hK : VS _ _ _ = KK; simp; try subst hK))
      | (refine VS.region tabOk (id := 7) [] (by kernel_rfl) ?_; generalize hK : VS _ _ _ = KK; simp [hF, dSp, dObs_at hj, hj, T.nth_setN_same _ hjl]; try subst hK; try (refine VS.keep [0, 1, 2, 9, 71] ?_; generalize hK : VS _ _ _ = KK; simp; try subst hK))
      | (refine VS.region tabOk (id := 8) [] (by kernel_rfl) ?_; generalize hK : VS _ _ _ = KK; simp [hF, dSp, dObs_at hj, hj, T.nth_setN_same _ hjl]; try subst hK; try (refine VS.keep [0, 1, 2, 9] ?_; generalize hK : VS _ _ _ = KK; simp; try subst hK))
      | (refine VS.drawn tabOk mixedOk (id := 9) [] [⟨0, 1, 604462909807314587353088, 5⟩, ⟨0, 1, 1208925819614629174706176, 5⟩, ⟨2, 1208925819614629174706176, 2417851639229258349412352, 5⟩, ⟨4, 2417851639229258349412352, 4835703278458516698824704, 5⟩, ⟨8, 4835703278458516698824704, 9671406556917033397649408, 6⟩, ⟨0, 2, 19342813113834066795298816, 5⟩, ⟨32, 19342813113834066795298816, 38685626227668133590597632, 5⟩, ⟨64, 38685626227668133590597632, 77371252455336267181195264, 5⟩, ⟨128, 77371252455336267181195264, 154742504910672534362390528, 6⟩, ⟨0, 4, 309485009821345068724781056, 5⟩, ⟨768, 464227514732017603087171584, 618970019642690137449562112, 5⟩, ⟨1024, 618970019642690137449562112, 1237940039285380274899124224, 4⟩, ⟨2064, 1247611445842297308296773632, 2475880078570760549798248448, 0⟩, ⟨8191, 604462909807314587353088, 4951760157141521099596496896, 5⟩, ⟨16383, 4951760157141521099596496896, 9903520314283042199192993792, 5⟩, ⟨24575, 12379400392853802748991242240, 0, 0⟩] (.take 0 (.take 1 (.take 2 (.take 3 (.take 4 (.take 5 (.take 6 (.take 7 (.take 8 (.take 9 (.take 10 (.fork (.alt 11 (.fork (.alt 12 (.take 13 (.take 14 (.fork (.alt 15 (.done) (.nil))))) (.nil))) (.nil)))))))))))))) (.run [0, 1, 2, 3, 4, 5, 6, 7, 8, 9, 10, 11, 12, 13, 14, 15] (.done)) (by kernel_rfl) (by kernel_rfl) (by kernel_rfl) ?_; generalize hK : VS _ _ _ = KK; simp only [opsVc_run, opsVc_both, opsVc_done, opsVc_yes, pick_cons, pick_nil, List.getElem?_cons_zero, List.getElem?_cons_succ]; simp [hF, dSp, dObs_at hj, hj, T.nth_setN_same _ hjl]; try subst hK; try (refine VS.keep [1, 9] ?_; generalize hK : VS _ _ _ = KK; simp; try subst hK))
      | (refine VS.region tabOk (id := 10) [] (by kernel_rfl) ?_; generalize hK : VS _ _ _ = KK; simp [hF, dSp, dObs_at hj, hj, T.nth_setN_same _ hjl]; try subst hK; try (refine VS.keep [] ?_; generalize hK : VS _ _ _ = KK; simp; try subst hK))
      | (refine VS.cond ?_; generalize hK1 : VS _ _ _ = KK1; generalize hK2 : VS _ _ _ = KK2; simp [hF, dSp, dObs_at hj, hj, T.nth_setN_same _ hjl]; try subst hK1; try subst hK2)
    refine (below_ok ⟨S.shapes, S.objs.set j ⟨S.objs[j].shape, S.objs[j].names, S.objs[j].words ++ [w], S.objs[j].frozen⟩⟩ hS S.objs[j].shape n).call [(0, [])] (by simp) (by simp [hF, dSp, e1.symm]) (by simp [hF, dSp, e1.symm]) (by simp [hF, dSp, e1.symm]) ?_
    rintro av X κ ⟨rfl, rfl, rfl⟩
    generalize hK : VS _ _ _ = KK; simp [hF, dSp, e1.symm]; try subst hK
    have how : ownOf S.objs[j] = [] := by simp [ownOf, hc]
    by_cases c1 : (12 : Int) ≤ S.objs[j].names.length
    · have c1' : 12 ≤ S.objs[j].names.length := by omega
      have c1n : ¬ (S.objs[j].names.length : Int) < 12 := by omega
      repeat first
        | refine VS.seq ?_
        | refine VS.skip ?_
        | refine VS.block ?_
        | refine VS.nil ?_
        | refine blockN_normal ?_
        | refine loopN_normal ?_
        | refine VS.exit ?_
        | refine blockN_hit ?_
        | refine blockN_miss (by decide) ?_
        | refine loopN_exit ?_
        | refine ⟨⟨by omega, by omega⟩, ?_⟩
        | (refine VS.region tabOk (id := 0) [] (by kernel_rfl) ?_; generalize hK : VS _ _ _ = KK; simp [hF, dSp, dObs_at hj, hj, T.nth_setN_same _ hjl, c1, c1n]; try subst hK; try (refine VS.keep [0, 1, 2, 3, 8] ?_; generalize hK : VS _ _ _ = KK; simp; try subst hK))
        | (refine VS.region tabOk (id := 1) [] (by kernel_rfl) ?_; generalize hK : VS _ _ _ = KK; simp [hF, dSp, dObs_at hj, hj, T.nth_setN_same _ hjl, c1, c1n]; try subst hK; try (refine VS.keep [0, 1, 2, 8] ?_; generalize hK : VS _ _ _ = KK; simp; try subst hK))
        | (refine VS.region tabOk (id := 2) [] (by kernel_rfl) ?_; generalize hK : VS _ _ _ = KK; simp [hF, dSp, dObs_at hj, hj, T.nth_setN_same _ hjl, c1, c1n]; try subst hK; try (refine VS.keep [0, 1, 2, 8, 30] ?_; generalize hK : VS _ _ _ = KK; simp; try subst hK))
        | (refine VS.region tabOk (id := 3) [] (by kernel_rfl) ?_; generalize hK : VS _ _ _ = KK; simp [hF, dSp, dObs_at hj, hj, T.nth_setN_same _ hjl, c1, c1n]; try subst hK; try (refine VS.keep [] ?_; generalize hK : VS _ _ _ = KK; simp; try subst hK))
        | (refine VS.region tabOk (id := 4) [] (by kernel_rfl) ?_; generalize hK : VS _ _ _ = KK; simp [hF, dSp, dObs_at hj, hj, T.nth_setN_same _ hjl, c1, c1n]; try subst hK; try (refine VS.keep [0, 1, 2, 8, 9] ?_; generalize hK : VS _ _ _ = KK; simp; try subst hK))
        | (refine VS.region tabOk (id := 5) [(3, 49), (6, 52)] (by kernel_rfl) ?_; generalize hK : VS _ _ _ = KK; simp [hF, dSp, dObs_at hj, hj, T.nth_setN_same _ hjl, c1, c1n]; try subst hK; try (refine VS.keep [0, 1, 2, 8, 9, 45] ?_; generalize hK : VS _ _ _ = KK; simp; try subst hK))
        | (refine VS.region tabOk (id := 6) [] (by kernel_rfl) ?_; generalize hK : VS _ _ _ = KK; simp [hF, dSp, dObs_at hj, hj, T.nth_setN_same _ hjl, c1, c1n]; try subst hK; try (refine VS.keep [] ?_; generalize hK : VS _ _ _ = KK; simp; try subst hK))
        | (refine VS.region tabOk (id := 7) [] (by kernel_rfl) ?_; generalize hK : VS _ _ _ = KK; simp [hF, dSp, dObs_at hj, hj, T.nth_setN_same _ hjl, c1, c1n]; try subst hK; try (refine VS.keep [0, 1, 2, 9, 71] ?_; generalize hK : VS _ _ _ = KK; simp; try subst hK))
        | (refine VS.region tabOk (id := 8) [] (by kernel_rfl) ?_; generalize hK : VS _ _ _ = KK; simp [hF, dSp, dObs_at hj, hj, T.nth_setN_same _ hjl, c1, c1n]; try subst hK; try (refine VS.keep [0, 1, 2, 9] ?_; generalize hK : VS _ _ _ = KK; simp; try subst hK))
        | (refine VS.drawn tabOk mixedOk (id := 9) [] [⟨0, 1, 604462909807314587353088, 5⟩, ⟨0, 1, 1208925819614629174706176, 5⟩, ⟨2, 1208925819614629174706176, 2417851639229258349412352, 5⟩, ⟨4, 2417851639229258349412352, 4835703278458516698824704, 5⟩, ⟨8, 4835703278458516698824704, 9671406556917033397649408, 6⟩, ⟨0, 2, 19342813113834066795298816, 5⟩, ⟨32, 19342813113834066795298816, 38685626227668133590597632, 5⟩, ⟨64, 38685626227668133590597632, 77371252455336267181195264, 5⟩, ⟨128, 77371252455336267181195264, 154742504910672534362390528, 6⟩, ⟨0, 4, 309485009821345068724781056, 5⟩, ⟨768, 464227514732017603087171584, 618970019642690137449562112, 5⟩, ⟨1024, 618970019642690137449562112, 1237940039285380274899124224, 4⟩, ⟨2064, 1247611445842297308296773632, 2475880078570760549798248448, 0⟩, ⟨8191, 604462909807314587353088, 4951760157141521099596496896, 5⟩, ⟨16383, 4951760157141521099596496896, 9903520314283042199192993792, 5⟩, ⟨24575, 12379400392853802748991242240, 0, 0⟩] (.take 0 (.take 1 (.take 2 (.take 3 (.take 4 (.take 5 (.take 6 (.take 7 (.take 8 (.take 9 (.take 10 (.fork (.alt 11 (.fork (.alt 12 (.take 13 (.take 14 (.fork (.alt 15 (.done) (.nil))))) (.nil))) (.nil)))))))))))))) (.run [0, 1, 2, 3, 4, 5, 6, 7, 8, 9, 10, 11, 12, 13, 14, 15] (.done)) (by kernel_rfl) (by kernel_rfl) (by kernel_rfl) ?_; generalize hK : VS _ _ _ = KK; simp only [opsVc_run, opsVc_both, opsVc_done, opsVc_yes, pick_cons, pick_nil, List.getElem?_cons_zero, List.getElem?_cons_succ]; simp [hF, dSp, dObs_at hj, hj, T.nth_setN_same _ hjl, c1, c1n]; try subst hK; try (refine VS.keep [1, 9] ?_; generalize hK : VS _ _ _ = KK; simp; try subst hK))
        | (refine VS.region tabOk (id := 10) [] (by kernel_rfl) ?_; generalize hK : VS _ _ _ = KK; simp [hF, dSp, dObs_at hj, hj, T.nth_setN_same _ hjl, c1, c1n]; try subst hK; try (refine VS.keep [] ?_; generalize hK : VS _ _ _ = KK; simp; try subst hK))
        | (refine VS.cond ?_; generalize hK1 : VS _ _ _ = KK1; generalize hK2 : VS _ _ _ = KK2; simp [hF, dSp, dObs_at hj, hj, T.nth_setN_same _ hjl, c1, c1n]; try subst hK1; try subst hK2)
      try refine VS.ret ?_
      repeat first | refine blockN_ret ?_ | refine loopN_ret ?_
      refine endK.of [] [0] addK (by simp [hF]) (by simp [covers, mpre]) ?_
      simp [hF, retK, dSp, addOf]
      rw [e2]
      simp [addOb, stepSh, ownOf, c1']
    have c1' : ¬ 12 ≤ S.objs[j].names.length := by omega
    have d1 : (S.objs[j].names.length : Int) < 12 := by omega
    by_cases c2 : belowOf S.shapes S.objs[j].shape n < 0
    · have c2' : ¬ 0 ≤ belowOf S.shapes S.objs[j].shape n := by omega
      by_cases c3 : (200 : Int) ≤ S.shapes.length
      · have c3n : ¬ (S.shapes.length : Int) < 200 := by omega
        repeat first
          | refine VS.seq ?_
          | refine VS.skip ?_
          | refine VS.block ?_
          | refine VS.nil ?_
          | refine blockN_normal ?_
          | refine loopN_normal ?_
          | refine VS.exit ?_
          | refine blockN_hit ?_
          | refine blockN_miss (by decide) ?_
          | refine loopN_exit ?_
          | refine ⟨⟨by omega, by omega⟩, ?_⟩
          | (refine VS.region tabOk (id := 0) [] (by kernel_rfl) ?_; generalize hK : VS _ _ _ = KK; simp [hF, dSp, dObs_at hj, hj, T.nth_setN_same _ hjl, c1, d1, c2, c2', c3, c3n]; try subst hK; try (refine VS.keep [0, 1, 2, 3, 8] ?_; generalize hK : VS _ _ _ = KK; simp; try subst hK))
          | (refine VS.region tabOk (id := 1) [] (by kernel_rfl) ?_; generalize hK : VS _ _ _ = KK; simp [hF, dSp, dObs_at hj, hj, T.nth_setN_same _ hjl, c1, d1, c2, c2', c3, c3n]; try subst hK; try (refine VS.keep [0, 1, 2, 8] ?_; generalize hK : VS _ _ _ = KK; simp; try subst hK))
          | (refine VS.region tabOk (id := 2) [] (by kernel_rfl) ?_; generalize hK : VS _ _ _ = KK; simp [hF, dSp, dObs_at hj, hj, T.nth_setN_same _ hjl, c1, d1, c2, c2', c3, c3n]; try subst hK; try (refine VS.keep [0, 1, 2, 8, 30] ?_; generalize hK : VS _ _ _ = KK; simp; try subst hK))
          | (refine VS.region tabOk (id := 3) [] (by kernel_rfl) ?_; generalize hK : VS _ _ _ = KK; simp [hF, dSp, dObs_at hj, hj, T.nth_setN_same _ hjl, c1, d1, c2, c2', c3, c3n]; try subst hK; try (refine VS.keep [] ?_; generalize hK : VS _ _ _ = KK; simp; try subst hK))
          | (refine VS.region tabOk (id := 4) [] (by kernel_rfl) ?_; generalize hK : VS _ _ _ = KK; simp [hF, dSp, dObs_at hj, hj, T.nth_setN_same _ hjl, c1, d1, c2, c2', c3, c3n]; try subst hK; try (refine VS.keep [0, 1, 2, 8, 9] ?_; generalize hK : VS _ _ _ = KK; simp; try subst hK))
          | (refine VS.region tabOk (id := 5) [(3, 49), (6, 52)] (by kernel_rfl) ?_; generalize hK : VS _ _ _ = KK; simp [hF, dSp, dObs_at hj, hj, T.nth_setN_same _ hjl, c1, d1, c2, c2', c3, c3n]; try subst hK; try (refine VS.keep [0, 1, 2, 8, 9, 45] ?_; generalize hK : VS _ _ _ = KK; simp; try subst hK))
          | (refine VS.region tabOk (id := 6) [] (by kernel_rfl) ?_; generalize hK : VS _ _ _ = KK; simp [hF, dSp, dObs_at hj, hj, T.nth_setN_same _ hjl, c1, d1, c2, c2', c3, c3n]; try subst hK; try (refine VS.keep [] ?_; generalize hK : VS _ _ _ = KK; simp; try subst hK))
          | (refine VS.region tabOk (id := 7) [] (by kernel_rfl) ?_; generalize hK : VS _ _ _ = KK; simp [hF, dSp, dObs_at hj, hj, T.nth_setN_same _ hjl, c1, d1, c2, c2', c3, c3n]; try subst hK; try (refine VS.keep [0, 1, 2, 9, 71] ?_; generalize hK : VS _ _ _ = KK; simp; try subst hK))
          | (refine VS.region tabOk (id := 8) [] (by kernel_rfl) ?_; generalize hK : VS _ _ _ = KK; simp [hF, dSp, dObs_at hj, hj, T.nth_setN_same _ hjl, c1, d1, c2, c2', c3, c3n]; try subst hK; try (refine VS.keep [0, 1, 2, 9] ?_; generalize hK : VS _ _ _ = KK; simp; try subst hK))
          | (refine VS.drawn tabOk mixedOk (id := 9) [] [⟨0, 1, 604462909807314587353088, 5⟩, ⟨0, 1, 1208925819614629174706176, 5⟩, ⟨2, 1208925819614629174706176, 2417851639229258349412352, 5⟩, ⟨4, 2417851639229258349412352, 4835703278458516698824704, 5⟩, ⟨8, 4835703278458516698824704, 9671406556917033397649408, 6⟩, ⟨0, 2, 19342813113834066795298816, 5⟩, ⟨32, 19342813113834066795298816, 38685626227668133590597632, 5⟩, ⟨64, 38685626227668133590597632, 77371252455336267181195264, 5⟩, ⟨128, 77371252455336267181195264, 154742504910672534362390528, 6⟩, ⟨0, 4, 309485009821345068724781056, 5⟩, ⟨768, 464227514732017603087171584, 618970019642690137449562112, 5⟩, ⟨1024, 618970019642690137449562112, 1237940039285380274899124224, 4⟩, ⟨2064, 1247611445842297308296773632, 2475880078570760549798248448, 0⟩, ⟨8191, 604462909807314587353088, 4951760157141521099596496896, 5⟩, ⟨16383, 4951760157141521099596496896, 9903520314283042199192993792, 5⟩, ⟨24575, 12379400392853802748991242240, 0, 0⟩] (.take 0 (.take 1 (.take 2 (.take 3 (.take 4 (.take 5 (.take 6 (.take 7 (.take 8 (.take 9 (.take 10 (.fork (.alt 11 (.fork (.alt 12 (.take 13 (.take 14 (.fork (.alt 15 (.done) (.nil))))) (.nil))) (.nil)))))))))))))) (.run [0, 1, 2, 3, 4, 5, 6, 7, 8, 9, 10, 11, 12, 13, 14, 15] (.done)) (by kernel_rfl) (by kernel_rfl) (by kernel_rfl) ?_; generalize hK : VS _ _ _ = KK; simp only [opsVc_run, opsVc_both, opsVc_done, opsVc_yes, pick_cons, pick_nil, List.getElem?_cons_zero, List.getElem?_cons_succ]; simp [hF, dSp, dObs_at hj, hj, T.nth_setN_same _ hjl, c1, d1, c2, c2', c3, c3n]; try subst hK; try (refine VS.keep [1, 9] ?_; generalize hK : VS _ _ _ = KK; simp; try subst hK))
          | (refine VS.region tabOk (id := 10) [] (by kernel_rfl) ?_; generalize hK : VS _ _ _ = KK; simp [hF, dSp, dObs_at hj, hj, T.nth_setN_same _ hjl, c1, d1, c2, c2', c3, c3n]; try subst hK; try (refine VS.keep [] ?_; generalize hK : VS _ _ _ = KK; simp; try subst hK))
          | (refine VS.cond ?_; generalize hK1 : VS _ _ _ = KK1; generalize hK2 : VS _ _ _ = KK2; simp [hF, dSp, dObs_at hj, hj, T.nth_setN_same _ hjl, c1, d1, c2, c2', c3, c3n]; try subst hK1; try subst hK2)
        try refine VS.ret ?_
        repeat first | refine blockN_ret ?_ | refine loopN_ret ?_
        refine endK.of [] [0] addK (by simp [hF]) (by simp [covers, mpre]) ?_
        simp [hF, retK, dSp, addOf]
        rw [e2]
        have c3' : 200 ≤ S.shapes.length := by omega
        simp [addOb, stepSh, ownOf, c1', hc, c2', c3']
      · have d3 : (S.shapes.length : Int) < 200 := by omega
        repeat first
          | refine VS.seq ?_
          | refine VS.skip ?_
          | refine VS.block ?_
          | refine VS.nil ?_
          | refine blockN_normal ?_
          | refine loopN_normal ?_
          | refine VS.exit ?_
          | refine blockN_hit ?_
          | refine blockN_miss (by decide) ?_
          | refine loopN_exit ?_
          | refine ⟨⟨by omega, by omega⟩, ?_⟩
          | (refine VS.region tabOk (id := 0) [] (by kernel_rfl) ?_; generalize hK : VS _ _ _ = KK; simp [hF, dSp, dObs_at hj, hj, T.nth_setN_same _ hjl, c1, d1, c2, c2', c3, d3]; try subst hK; try (refine VS.keep [0, 1, 2, 3, 8] ?_; generalize hK : VS _ _ _ = KK; simp; try subst hK))
          | (refine VS.region tabOk (id := 1) [] (by kernel_rfl) ?_; generalize hK : VS _ _ _ = KK; simp [hF, dSp, dObs_at hj, hj, T.nth_setN_same _ hjl, c1, d1, c2, c2', c3, d3]; try subst hK; try (refine VS.keep [0, 1, 2, 8] ?_; generalize hK : VS _ _ _ = KK; simp; try subst hK))
          | (refine VS.region tabOk (id := 2) [] (by kernel_rfl) ?_; generalize hK : VS _ _ _ = KK; simp [hF, dSp, dObs_at hj, hj, T.nth_setN_same _ hjl, c1, d1, c2, c2', c3, d3]; try subst hK; try (refine VS.keep [0, 1, 2, 8, 30] ?_; generalize hK : VS _ _ _ = KK; simp; try subst hK))
          | (refine VS.region tabOk (id := 3) [] (by kernel_rfl) ?_; generalize hK : VS _ _ _ = KK; simp [hF, dSp, dObs_at hj, hj, T.nth_setN_same _ hjl, c1, d1, c2, c2', c3, d3]; try subst hK; try (refine VS.keep [] ?_; generalize hK : VS _ _ _ = KK; simp; try subst hK))
          | (refine VS.region tabOk (id := 4) [] (by kernel_rfl) ?_; generalize hK : VS _ _ _ = KK; simp [hF, dSp, dObs_at hj, hj, T.nth_setN_same _ hjl, c1, d1, c2, c2', c3, d3]; try subst hK; try (refine VS.keep [0, 1, 2, 8, 9] ?_; generalize hK : VS _ _ _ = KK; simp; try subst hK))
          | (refine VS.region tabOk (id := 5) [(3, 49), (6, 52)] (by kernel_rfl) ?_; generalize hK : VS _ _ _ = KK; simp [hF, dSp, dObs_at hj, hj, T.nth_setN_same _ hjl, c1, d1, c2, c2', c3, d3]; try subst hK; try (refine VS.keep [0, 1, 2, 8, 9, 45] ?_; generalize hK : VS _ _ _ = KK; simp; try subst hK))
          | (refine VS.region tabOk (id := 6) [] (by kernel_rfl) ?_; generalize hK : VS _ _ _ = KK; simp [hF, dSp, dObs_at hj, hj, T.nth_setN_same _ hjl, c1, d1, c2, c2', c3, d3]; try subst hK; try (refine VS.keep [] ?_; generalize hK : VS _ _ _ = KK; simp; try subst hK))
          | (refine VS.region tabOk (id := 7) [] (by kernel_rfl) ?_; generalize hK : VS _ _ _ = KK; simp [hF, dSp, dObs_at hj, hj, T.nth_setN_same _ hjl, c1, d1, c2, c2', c3, d3]; try subst hK; try (refine VS.keep [0, 1, 2, 9, 71] ?_; generalize hK : VS _ _ _ = KK; simp; try subst hK))
          | (refine VS.region tabOk (id := 8) [] (by kernel_rfl) ?_; generalize hK : VS _ _ _ = KK; simp [hF, dSp, dObs_at hj, hj, T.nth_setN_same _ hjl, c1, d1, c2, c2', c3, d3]; try subst hK; try (refine VS.keep [0, 1, 2, 9] ?_; generalize hK : VS _ _ _ = KK; simp; try subst hK))
          | (refine VS.region tabOk (id := 10) [] (by kernel_rfl) ?_; generalize hK : VS _ _ _ = KK; simp [hF, dSp, dObs_at hj, hj, T.nth_setN_same _ hjl, c1, d1, c2, c2', c3, d3]; try subst hK; try (refine VS.keep [] ?_; generalize hK : VS _ _ _ = KK; simp; try subst hK))
          | (refine VS.cond ?_; generalize hK1 : VS _ _ _ = KK1; generalize hK2 : VS _ _ _ = KK2; simp [hF, dSp, dObs_at hj, hj, T.nth_setN_same _ hjl, c1, d1, c2, c2', c3, d3]; try subst hK1; try subst hK2)
        refine VS.lift 0 [.d, .f 0] (by simp) (by simp) (by simp [isNode]) (by simp) ?_
        generalize hK : VS _ _ _ = KK; simp [hF, St.lift, AV.lift, liftPl, stripP, nodeAV]; try subst hK
        have hpush := dShs_push S.shapes ⟨S.objs[j].shape, S.objs[j].names ++ [n]⟩
        simp only [lastName, List.getLastD_concat] at hpush
        repeat first
          | refine VS.seq ?_
          | refine VS.skip ?_
          | refine VS.block ?_
          | refine VS.nil ?_
          | refine blockN_normal ?_
          | refine loopN_normal ?_
          | refine VS.exit ?_
          | refine blockN_hit ?_
          | refine blockN_miss (by decide) ?_
          | refine loopN_exit ?_
          | refine ⟨⟨by omega, by omega⟩, ?_⟩
          | (refine VS.region tabOk (id := 0) [] (by kernel_rfl) ?_; generalize hK : VS _ _ _ = KK; simp [hF, dSp, dObs_at hj, hj, T.nth_setN_same _ hjl, c1, d1, c2, c2', c3, d3, hpush]; try subst hK; try (refine VS.keep [0, 1, 2, 3, 8] ?_; generalize hK : VS _ _ _ = KK; simp; try subst hK))
          | (refine VS.region tabOk (id := 1) [] (by kernel_rfl) ?_; generalize hK : VS _ _ _ = KK; simp [hF, dSp, dObs_at hj, hj, T.nth_setN_same _ hjl, c1, d1, c2, c2', c3, d3, hpush]; try subst hK; try (refine VS.keep [0, 1, 2, 8] ?_; generalize hK : VS _ _ _ = KK; simp; try subst hK))
          | (refine VS.region tabOk (id := 2) [] (by kernel_rfl) ?_; generalize hK : VS _ _ _ = KK; simp [hF, dSp, dObs_at hj, hj, T.nth_setN_same _ hjl, c1, d1, c2, c2', c3, d3, hpush]; try subst hK; try (refine VS.keep [0, 1, 2, 8, 30] ?_; generalize hK : VS _ _ _ = KK; simp; try subst hK))
          | (refine VS.region tabOk (id := 3) [] (by kernel_rfl) ?_; generalize hK : VS _ _ _ = KK; simp [hF, dSp, dObs_at hj, hj, T.nth_setN_same _ hjl, c1, d1, c2, c2', c3, d3, hpush]; try subst hK; try (refine VS.keep [] ?_; generalize hK : VS _ _ _ = KK; simp; try subst hK))
          | (refine VS.region tabOk (id := 4) [] (by kernel_rfl) ?_; generalize hK : VS _ _ _ = KK; simp [hF, dSp, dObs_at hj, hj, T.nth_setN_same _ hjl, c1, d1, c2, c2', c3, d3, hpush]; try subst hK; try (refine VS.keep [0, 1, 2, 8, 9] ?_; generalize hK : VS _ _ _ = KK; simp; try subst hK))
          | (refine VS.region tabOk (id := 5) [(3, 49), (6, 52)] (by kernel_rfl) ?_; generalize hK : VS _ _ _ = KK; simp [hF, dSp, dObs_at hj, hj, T.nth_setN_same _ hjl, c1, d1, c2, c2', c3, d3, hpush]; try subst hK; try (refine VS.keep [0, 1, 2, 8, 9, 45] ?_; generalize hK : VS _ _ _ = KK; simp; try subst hK))
          | (refine VS.region tabOk (id := 6) [] (by kernel_rfl) ?_; generalize hK : VS _ _ _ = KK; simp [hF, dSp, dObs_at hj, hj, T.nth_setN_same _ hjl, c1, d1, c2, c2', c3, d3, hpush]; try subst hK; try (refine VS.keep [] ?_; generalize hK : VS _ _ _ = KK; simp; try subst hK))
          | (refine VS.region tabOk (id := 7) [] (by kernel_rfl) ?_; generalize hK : VS _ _ _ = KK; simp [hF, dSp, dObs_at hj, hj, T.nth_setN_same _ hjl, c1, d1, c2, c2', c3, d3, hpush]; try subst hK; try (refine VS.keep [0, 1, 2, 9, 71] ?_; generalize hK : VS _ _ _ = KK; simp; try subst hK))
          | (refine VS.region tabOk (id := 8) [] (by kernel_rfl) ?_; generalize hK : VS _ _ _ = KK; simp [hF, dSp, dObs_at hj, hj, T.nth_setN_same _ hjl, c1, d1, c2, c2', c3, d3, hpush]; try subst hK; try (refine VS.keep [0, 1, 2, 9] ?_; generalize hK : VS _ _ _ = KK; simp; try subst hK))
          | (refine VS.drawn tabOk mixedOk (id := 9) [] [⟨0, 1, 604462909807314587353088, 5⟩, ⟨0, 1, 1208925819614629174706176, 5⟩, ⟨2, 1208925819614629174706176, 2417851639229258349412352, 5⟩, ⟨4, 2417851639229258349412352, 4835703278458516698824704, 5⟩, ⟨8, 4835703278458516698824704, 9671406556917033397649408, 6⟩, ⟨0, 2, 19342813113834066795298816, 5⟩, ⟨32, 19342813113834066795298816, 38685626227668133590597632, 5⟩, ⟨64, 38685626227668133590597632, 77371252455336267181195264, 5⟩, ⟨128, 77371252455336267181195264, 154742504910672534362390528, 6⟩, ⟨0, 4, 309485009821345068724781056, 5⟩, ⟨768, 464227514732017603087171584, 618970019642690137449562112, 5⟩, ⟨1024, 618970019642690137449562112, 1237940039285380274899124224, 4⟩, ⟨2064, 1247611445842297308296773632, 2475880078570760549798248448, 0⟩, ⟨8191, 604462909807314587353088, 4951760157141521099596496896, 5⟩, ⟨16383, 4951760157141521099596496896, 9903520314283042199192993792, 5⟩, ⟨24575, 12379400392853802748991242240, 0, 0⟩] (.take 0 (.take 1 (.take 2 (.take 3 (.take 4 (.take 5 (.take 6 (.take 7 (.take 8 (.take 9 (.take 10 (.fork (.alt 11 (.fork (.alt 12 (.take 13 (.take 14 (.fork (.alt 15 (.done) (.nil))))) (.nil))) (.nil)))))))))))))) (.run [0, 1, 2, 3, 4, 5, 6, 7, 8, 9, 10, 11, 12, 13, 14, 15] (.done)) (by kernel_rfl) (by kernel_rfl) (by kernel_rfl) ?_; generalize hK : VS _ _ _ = KK; simp only [opsVc_run, opsVc_both, opsVc_done, opsVc_yes, pick_cons, pick_nil, List.getElem?_cons_zero, List.getElem?_cons_succ]; simp [hF, dSp, dObs_at hj, hj, T.nth_setN_same _ hjl, c1, d1, c2, c2', c3, d3, hpush]; try subst hK; try (refine VS.keep [1, 9] ?_; generalize hK : VS _ _ _ = KK; simp; try subst hK))
          | (refine VS.region tabOk (id := 10) [] (by kernel_rfl) ?_; generalize hK : VS _ _ _ = KK; simp [hF, dSp, dObs_at hj, hj, T.nth_setN_same _ hjl, c1, d1, c2, c2', c3, d3, hpush]; try subst hK; try (refine VS.keep [] ?_; generalize hK : VS _ _ _ = KK; simp; try subst hK))
          | (refine VS.cond ?_; generalize hK1 : VS _ _ _ = KK1; generalize hK2 : VS _ _ _ = KK2; simp [hF, dSp, dObs_at hj, hj, T.nth_setN_same _ hjl, c1, d1, c2, c2', c3, d3, hpush]; try subst hK1; try subst hK2)
        try refine VS.ret ?_
        repeat first | refine blockN_ret ?_ | refine loopN_ret ?_
        refine endK.of [] [0] addK (by simp [hF]) (by simp [covers, mpre]) ?_
        simp [hF, retK, dSp, addOf, hpush]
        rw [e2]
        have c3' : ¬ 200 ≤ S.shapes.length := by omega
        have c4' : ¬ (S.shapes.length : Int) = -1 := by omega
        simp [addOb, stepSh, ownOf, c1', hc, c2', c3', c4']
    · have d2 : 0 ≤ belowOf S.shapes S.objs[j].shape n := by omega
      repeat first
        | refine VS.seq ?_
        | refine VS.skip ?_
        | refine VS.block ?_
        | refine VS.nil ?_
        | refine blockN_normal ?_
        | refine loopN_normal ?_
        | refine VS.exit ?_
        | refine blockN_hit ?_
        | refine blockN_miss (by decide) ?_
        | refine loopN_exit ?_
        | refine ⟨⟨by omega, by omega⟩, ?_⟩
        | (refine VS.region tabOk (id := 0) [] (by kernel_rfl) ?_; generalize hK : VS _ _ _ = KK; simp [hF, dSp, dObs_at hj, hj, T.nth_setN_same _ hjl, c1, d1, c2, d2]; try subst hK; try (refine VS.keep [0, 1, 2, 3, 8] ?_; generalize hK : VS _ _ _ = KK; simp; try subst hK))
        | (refine VS.region tabOk (id := 1) [] (by kernel_rfl) ?_; generalize hK : VS _ _ _ = KK; simp [hF, dSp, dObs_at hj, hj, T.nth_setN_same _ hjl, c1, d1, c2, d2]; try subst hK; try (refine VS.keep [0, 1, 2, 8] ?_; generalize hK : VS _ _ _ = KK; simp; try subst hK))
        | (refine VS.region tabOk (id := 2) [] (by kernel_rfl) ?_; generalize hK : VS _ _ _ = KK; simp [hF, dSp, dObs_at hj, hj, T.nth_setN_same _ hjl, c1, d1, c2, d2]; try subst hK; try (refine VS.keep [0, 1, 2, 8, 30] ?_; generalize hK : VS _ _ _ = KK; simp; try subst hK))
        | (refine VS.region tabOk (id := 3) [] (by kernel_rfl) ?_; generalize hK : VS _ _ _ = KK; simp [hF, dSp, dObs_at hj, hj, T.nth_setN_same _ hjl, c1, d1, c2, d2]; try subst hK; try (refine VS.keep [] ?_; generalize hK : VS _ _ _ = KK; simp; try subst hK))
        | (refine VS.region tabOk (id := 4) [] (by kernel_rfl) ?_; generalize hK : VS _ _ _ = KK; simp [hF, dSp, dObs_at hj, hj, T.nth_setN_same _ hjl, c1, d1, c2, d2]; try subst hK; try (refine VS.keep [0, 1, 2, 8, 9] ?_; generalize hK : VS _ _ _ = KK; simp; try subst hK))
        | (refine VS.region tabOk (id := 5) [(3, 49), (6, 52)] (by kernel_rfl) ?_; generalize hK : VS _ _ _ = KK; simp [hF, dSp, dObs_at hj, hj, T.nth_setN_same _ hjl, c1, d1, c2, d2]; try subst hK; try (refine VS.keep [0, 1, 2, 8, 9, 45] ?_; generalize hK : VS _ _ _ = KK; simp; try subst hK))
        | (refine VS.region tabOk (id := 6) [] (by kernel_rfl) ?_; generalize hK : VS _ _ _ = KK; simp [hF, dSp, dObs_at hj, hj, T.nth_setN_same _ hjl, c1, d1, c2, d2]; try subst hK; try (refine VS.keep [] ?_; generalize hK : VS _ _ _ = KK; simp; try subst hK))
        | (refine VS.region tabOk (id := 7) [] (by kernel_rfl) ?_; generalize hK : VS _ _ _ = KK; simp [hF, dSp, dObs_at hj, hj, T.nth_setN_same _ hjl, c1, d1, c2, d2]; try subst hK; try (refine VS.keep [0, 1, 2, 9, 71] ?_; generalize hK : VS _ _ _ = KK; simp; try subst hK))
        | (refine VS.region tabOk (id := 8) [] (by kernel_rfl) ?_; generalize hK : VS _ _ _ = KK; simp [hF, dSp, dObs_at hj, hj, T.nth_setN_same _ hjl, c1, d1, c2, d2]; try subst hK; try (refine VS.keep [0, 1, 2, 9] ?_; generalize hK : VS _ _ _ = KK; simp; try subst hK))
        | (refine VS.drawn tabOk mixedOk (id := 9) [] [⟨0, 1, 604462909807314587353088, 5⟩, ⟨0, 1, 1208925819614629174706176, 5⟩, ⟨2, 1208925819614629174706176, 2417851639229258349412352, 5⟩, ⟨4, 2417851639229258349412352, 4835703278458516698824704, 5⟩, ⟨8, 4835703278458516698824704, 9671406556917033397649408, 6⟩, ⟨0, 2, 19342813113834066795298816, 5⟩, ⟨32, 19342813113834066795298816, 38685626227668133590597632, 5⟩, ⟨64, 38685626227668133590597632, 77371252455336267181195264, 5⟩, ⟨128, 77371252455336267181195264, 154742504910672534362390528, 6⟩, ⟨0, 4, 309485009821345068724781056, 5⟩, ⟨768, 464227514732017603087171584, 618970019642690137449562112, 5⟩, ⟨1024, 618970019642690137449562112, 1237940039285380274899124224, 4⟩, ⟨2064, 1247611445842297308296773632, 2475880078570760549798248448, 0⟩, ⟨8191, 604462909807314587353088, 4951760157141521099596496896, 5⟩, ⟨16383, 4951760157141521099596496896, 9903520314283042199192993792, 5⟩, ⟨24575, 12379400392853802748991242240, 0, 0⟩] (.take 0 (.take 1 (.take 2 (.take 3 (.take 4 (.take 5 (.take 6 (.take 7 (.take 8 (.take 9 (.take 10 (.fork (.alt 11 (.fork (.alt 12 (.take 13 (.take 14 (.fork (.alt 15 (.done) (.nil))))) (.nil))) (.nil)))))))))))))) (.run [0, 1, 2, 3, 4, 5, 6, 7, 8, 9, 10, 11, 12, 13, 14, 15] (.done)) (by kernel_rfl) (by kernel_rfl) (by kernel_rfl) ?_; generalize hK : VS _ _ _ = KK; simp only [opsVc_run, opsVc_both, opsVc_done, opsVc_yes, pick_cons, pick_nil, List.getElem?_cons_zero, List.getElem?_cons_succ]; simp [hF, dSp, dObs_at hj, hj, T.nth_setN_same _ hjl, c1, d1, c2, d2]; try subst hK; try (refine VS.keep [1, 9] ?_; generalize hK : VS _ _ _ = KK; simp; try subst hK))
        | (refine VS.region tabOk (id := 10) [] (by kernel_rfl) ?_; generalize hK : VS _ _ _ = KK; simp [hF, dSp, dObs_at hj, hj, T.nth_setN_same _ hjl, c1, d1, c2, d2]; try subst hK; try (refine VS.keep [] ?_; generalize hK : VS _ _ _ = KK; simp; try subst hK))
        | (refine VS.cond ?_; generalize hK1 : VS _ _ _ = KK1; generalize hK2 : VS _ _ _ = KK2; simp [hF, dSp, dObs_at hj, hj, T.nth_setN_same _ hjl, c1, d1, c2, d2]; try subst hK1; try subst hK2)
      try refine VS.ret ?_
      repeat first | refine blockN_ret ?_ | refine loopN_ret ?_
      refine endK.of [] [0] addK (by simp [hF]) (by simp [covers, mpre]) ?_
      simp [hF, retK, dSp, addOf]
      rw [e2]
      have hne : ¬ belowOf S.shapes S.objs[j].shape n = -1 := by omega
      simp [addOb, stepSh, ownOf, c1', hc, d2, hne]
end Go.Proofs.Ythcndkpkkaphoaa

/- The smaller methods. -/
namespace Go.Proofs.Ythcndkpkkaphoaa
set_option linter.all false
open Go.Vc Go.Proofs
set_option linter.unusedSimpArgs false
set_option maxRecDepth 100000
set_option maxHeartbeats 4000000

abbrev avInt (n : Int) : AV := .val (.int .i64 n)
abbrev two (p : Int × Int) : AV := .tup (.cons (avInt p.1) (.cons (avInt p.2) .nil))

/- (*cabochon/shape.Space).Shape -/
theorem shape_ok (S : Sp) (o : Int) : Meets Try.prog 19 [dSp S] (.cons (.ptr 0 [.d]) (.cons (avInt o) .nil))
    fun av X κ => av = two (shapeOf S o) ∧ X = [dSp S] ∧ κ = [] := by
  refine Meets.of_vs tabOk Try.func19 (body := ?_) ?_ (by kernel_rfl) Try.ntmps19 (rs := [.tmp 4, .tmp 5]) (by kernel_rfl) rfl (by simp [AV.len]) (by simp only [envOf]; exact rfl) ?_
  rotate_left
  · rfl
  intro w0 I0 F0 hF
  repeat first
    | refine VS.seq ?_
    | refine VS.skip ?_
    | refine VS.block ?_
    | refine VS.nil ?_
    | refine blockN_normal ?_
    | refine loopN_normal ?_
    | refine VS.exit ?_
    | refine blockN_hit ?_
    | refine blockN_miss (by decide) ?_
    | refine loopN_exit ?_
    | refine ⟨⟨by omega, by omega⟩, ?_⟩
    | (refine VS.region tabOk (id := 0) [] (by kernel_rfl) ?_; generalize hK : VS _ _ _ = KK; simp [hF]; try subst hK; try (refine VS.keep [0, 1] ?_; generalize hK : VS _ _ _ = KK; simp; try subst hK))
    | (refine VS.region tabOk (id := 1) [] (by kernel_rfl) ?_; generalize hK : VS _ _ _ = KK; simp [hF]; try subst hK; try (refine VS.keep [0, 1, 9] ?_; generalize hK : VS _ _ _ = KK; simp; try subst hK))
    | (refine VS.region tabOk (id := 2) [] (by kernel_rfl) ?_; generalize hK : VS _ _ _ = KK; simp [hF]; try subst hK; try (refine VS.keep [4, 5] ?_; generalize hK : VS _ _ _ = KK; simp; try subst hK))
    | (refine VS.region tabOk (id := 3) [] (by kernel_rfl) ?_; generalize hK : VS _ _ _ = KK; simp [hF]; try subst hK; try (refine VS.keep [4, 5] ?_; generalize hK : VS _ _ _ = KK; simp; try subst hK))
    | (refine VS.cond ?_; generalize hK1 : VS _ _ _ = KK1; generalize hK2 : VS _ _ _ = KK2; simp [hF]; try subst hK1; try subst hK2)
  refine (has_ok S o).call [(0, [])] (by simp) (by simp [hF, dSp]) (by simp [hF, dSp]) (by simp [hF, dSp]) ?_
  rintro av X κ ⟨rfl, rfl, rfl⟩
  generalize hK : VS _ _ _ = KK; simp [hF, dSp]; try subst hK
  repeat first
    | refine VS.seq ?_
    | refine VS.skip ?_
    | refine VS.block ?_
    | refine VS.nil ?_
    | refine blockN_normal ?_
    | refine loopN_normal ?_
    | refine VS.exit ?_
    | refine blockN_hit ?_
    | refine blockN_miss (by decide) ?_
    | refine loopN_exit ?_
    | refine ⟨⟨by omega, by omega⟩, ?_⟩
    | (refine VS.region tabOk (id := 0) [] (by kernel_rfl) ?_; generalize hK : VS _ _ _ = KK; simp [hF]; try subst hK; try (refine VS.keep [0, 1] ?_; generalize hK : VS _ _ _ = KK; simp; try subst hK))
    | (refine VS.region tabOk (id := 1) [] (by kernel_rfl) ?_; generalize hK : VS _ _ _ = KK; simp [hF]; try subst hK; try (refine VS.keep [0, 1, 9] ?_; generalize hK : VS _ _ _ = KK; simp; try subst hK))
    | (refine VS.region tabOk (id := 2) [] (by kernel_rfl) ?_; generalize hK : VS _ _ _ = KK; simp [hF]; try subst hK; try (refine VS.keep [4, 5] ?_; generalize hK : VS _ _ _ = KK; simp; try subst hK))
    | (refine VS.region tabOk (id := 3) [] (by kernel_rfl) ?_; generalize hK : VS _ _ _ = KK; simp [hF]; try subst hK; try (refine VS.keep [4, 5] ?_; generalize hK : VS _ _ _ = KK; simp; try subst hK))
    | (refine VS.cond ?_; generalize hK1 : VS _ _ _ = KK1; generalize hK2 : VS _ _ _ = KK2; simp [hF]; try subst hK1; try subst hK2)
  refine ⟨fun h => ?_, fun h => ?_⟩
  · repeat first
      | refine VS.seq ?_
      | refine VS.skip ?_
      | refine VS.block ?_
      | refine VS.nil ?_
      | refine blockN_normal ?_
      | refine loopN_normal ?_
      | refine VS.exit ?_
      | refine blockN_hit ?_
      | refine blockN_miss (by decide) ?_
      | refine loopN_exit ?_
      | refine ⟨⟨by omega, by omega⟩, ?_⟩
      | (refine VS.region tabOk (id := 0) [] (by kernel_rfl) ?_; generalize hK : VS _ _ _ = KK; simp [hF]; try subst hK; try (refine VS.keep [0, 1] ?_; generalize hK : VS _ _ _ = KK; simp; try subst hK))
      | (refine VS.region tabOk (id := 1) [] (by kernel_rfl) ?_; generalize hK : VS _ _ _ = KK; simp [hF]; try subst hK; try (refine VS.keep [0, 1, 9] ?_; generalize hK : VS _ _ _ = KK; simp; try subst hK))
      | (refine VS.region tabOk (id := 2) [] (by kernel_rfl) ?_; generalize hK : VS _ _ _ = KK; simp [hF]; try subst hK; try (refine VS.keep [4, 5] ?_; generalize hK : VS _ _ _ = KK; simp; try subst hK))
      | (refine VS.region tabOk (id := 3) [] (by kernel_rfl) ?_; generalize hK : VS _ _ _ = KK; simp [hF]; try subst hK; try (refine VS.keep [4, 5] ?_; generalize hK : VS _ _ _ = KK; simp; try subst hK))
      | (refine VS.cond ?_; generalize hK1 : VS _ _ _ = KK1; generalize hK2 : VS _ _ _ = KK2; simp [hF]; try subst hK1; try subst hK2)
    try refine VS.ret ?_
    repeat first | refine blockN_ret ?_ | refine loopN_ret ?_
    refine endK.of [4, 5] [0] [] (by simp [hF]) (by simp [covers, mpre]) ?_
    simp [hF, retK, dSp, shapeOf, h]
  · obtain ⟨j, rfl, hj, h0⟩ := hasB_true h
    repeat first
      | refine VS.seq ?_
      | refine VS.skip ?_
      | refine VS.block ?_
      | refine VS.nil ?_
      | refine blockN_normal ?_
      | refine loopN_normal ?_
      | refine VS.exit ?_
      | refine blockN_hit ?_
      | refine blockN_miss (by decide) ?_
      | refine loopN_exit ?_
      | refine ⟨⟨by omega, by omega⟩, ?_⟩
      | (refine VS.region tabOk (id := 0) [] (by kernel_rfl) ?_; generalize hK : VS _ _ _ = KK; simp [hF, dSp, dObs_at hj, hj, h]; try subst hK; try (refine VS.keep [0, 1] ?_; generalize hK : VS _ _ _ = KK; simp; try subst hK))
      | (refine VS.region tabOk (id := 1) [] (by kernel_rfl) ?_; generalize hK : VS _ _ _ = KK; simp [hF, dSp, dObs_at hj, hj, h]; try subst hK; try (refine VS.keep [0, 1, 9] ?_; generalize hK : VS _ _ _ = KK; simp; try subst hK))
      | (refine VS.region tabOk (id := 2) [] (by kernel_rfl) ?_; generalize hK : VS _ _ _ = KK; simp [hF, dSp, dObs_at hj, hj, h]; try subst hK; try (refine VS.keep [4, 5] ?_; generalize hK : VS _ _ _ = KK; simp; try subst hK))
      | (refine VS.region tabOk (id := 3) [] (by kernel_rfl) ?_; generalize hK : VS _ _ _ = KK; simp [hF, dSp, dObs_at hj, hj, h]; try subst hK; try (refine VS.keep [4, 5] ?_; generalize hK : VS _ _ _ = KK; simp; try subst hK))
      | (refine VS.cond ?_; generalize hK1 : VS _ _ _ = KK1; generalize hK2 : VS _ _ _ = KK2; simp [hF, dSp, dObs_at hj, hj, h]; try subst hK1; try subst hK2)
    try refine VS.ret ?_
    repeat first | refine blockN_ret ?_ | refine loopN_ret ?_
    refine endK.of [4, 5] [0] [] (by simp [hF]) (by simp [covers, mpre]) ?_
    simp [hF, retK, dSp, shapeOf, h, obAt_eq hj]

/- (*cabochon/shape.Space).Frozen -/
theorem frozen_ok (S : Sp) (o : Int) : Meets Try.prog 30 [dSp S] (.cons (.ptr 0 [.d]) (.cons (avInt o) .nil))
    fun av X κ => av = .tup (.cons (.val (.bool (frozenOf S o).1)) (.cons (avInt (frozenOf S o).2) .nil)) ∧ X = [dSp S] ∧ κ = [] := by
  refine Meets.of_vs tabOk Try.func30 (body := ?_) ?_ (by kernel_rfl) Try.ntmps30 (rs := [.tmp 4, .tmp 5]) (by kernel_rfl) rfl (by simp [AV.len]) (by simp only [envOf]; exact rfl) ?_
  rotate_left
  · rfl
  intro w0 I0 F0 hF
  repeat first
    | refine VS.seq ?_
    | refine VS.skip ?_
    | refine VS.block ?_
    | refine VS.nil ?_
    | refine blockN_normal ?_
    | refine loopN_normal ?_
    | refine VS.exit ?_
    | refine blockN_hit ?_
    | refine blockN_miss (by decide) ?_
    | refine loopN_exit ?_
    | refine ⟨⟨by omega, by omega⟩, ?_⟩
    | (refine VS.region tabOk (id := 0) [] (by kernel_rfl) ?_; generalize hK : VS _ _ _ = KK; simp [hF]; try subst hK; try (refine VS.keep [0, 1] ?_; generalize hK : VS _ _ _ = KK; simp; try subst hK))
    | (refine VS.region tabOk (id := 1) [] (by kernel_rfl) ?_; generalize hK : VS _ _ _ = KK; simp [hF]; try subst hK; try (refine VS.keep [0, 1, 9] ?_; generalize hK : VS _ _ _ = KK; simp; try subst hK))
    | (refine VS.region tabOk (id := 2) [] (by kernel_rfl) ?_; generalize hK : VS _ _ _ = KK; simp [hF]; try subst hK; try (refine VS.keep [4, 5] ?_; generalize hK : VS _ _ _ = KK; simp; try subst hK))
    | (refine VS.region tabOk (id := 3) [] (by kernel_rfl) ?_; generalize hK : VS _ _ _ = KK; simp [hF]; try subst hK; try (refine VS.keep [4, 5] ?_; generalize hK : VS _ _ _ = KK; simp; try subst hK))
    | (refine VS.cond ?_; generalize hK1 : VS _ _ _ = KK1; generalize hK2 : VS _ _ _ = KK2; simp [hF]; try subst hK1; try subst hK2)
  refine (has_ok S o).call [(0, [])] (by simp) (by simp [hF, dSp]) (by simp [hF, dSp]) (by simp [hF, dSp]) ?_
  rintro av X κ ⟨rfl, rfl, rfl⟩
  generalize hK : VS _ _ _ = KK; simp [hF, dSp]; try subst hK
  repeat first
    | refine VS.seq ?_
    | refine VS.skip ?_
    | refine VS.block ?_
    | refine VS.nil ?_
    | refine blockN_normal ?_
    | refine loopN_normal ?_
    | refine VS.exit ?_
    | refine blockN_hit ?_
    | refine blockN_miss (by decide) ?_
    | refine loopN_exit ?_
    | refine ⟨⟨by omega, by omega⟩, ?_⟩
    | (refine VS.region tabOk (id := 0) [] (by kernel_rfl) ?_; generalize hK : VS _ _ _ = KK; simp [hF]; try subst hK; try (refine VS.keep [0, 1] ?_; generalize hK : VS _ _ _ = KK; simp; try subst hK))
    | (refine VS.region tabOk (id := 1) [] (by kernel_rfl) ?_; generalize hK : VS _ _ _ = KK; simp [hF]; try subst hK; try (refine VS.keep [0, 1, 9] ?_; generalize hK : VS _ _ _ = KK; simp; try subst hK))
    | (refine VS.region tabOk (id := 2) [] (by kernel_rfl) ?_; generalize hK : VS _ _ _ = KK; simp [hF]; try subst hK; try (refine VS.keep [4, 5] ?_; generalize hK : VS _ _ _ = KK; simp; try subst hK))
    | (refine VS.region tabOk (id := 3) [] (by kernel_rfl) ?_; generalize hK : VS _ _ _ = KK; simp [hF]; try subst hK; try (refine VS.keep [4, 5] ?_; generalize hK : VS _ _ _ = KK; simp; try subst hK))
    | (refine VS.cond ?_; generalize hK1 : VS _ _ _ = KK1; generalize hK2 : VS _ _ _ = KK2; simp [hF]; try subst hK1; try subst hK2)
  refine ⟨fun h => ?_, fun h => ?_⟩
  · repeat first
      | refine VS.seq ?_
      | refine VS.skip ?_
      | refine VS.block ?_
      | refine VS.nil ?_
      | refine blockN_normal ?_
      | refine loopN_normal ?_
      | refine VS.exit ?_
      | refine blockN_hit ?_
      | refine blockN_miss (by decide) ?_
      | refine loopN_exit ?_
      | refine ⟨⟨by omega, by omega⟩, ?_⟩
      | (refine VS.region tabOk (id := 0) [] (by kernel_rfl) ?_; generalize hK : VS _ _ _ = KK; simp [hF]; try subst hK; try (refine VS.keep [0, 1] ?_; generalize hK : VS _ _ _ = KK; simp; try subst hK))
      | (refine VS.region tabOk (id := 1) [] (by kernel_rfl) ?_; generalize hK : VS _ _ _ = KK; simp [hF]; try subst hK; try (refine VS.keep [0, 1, 9] ?_; generalize hK : VS _ _ _ = KK; simp; try subst hK))
      | (refine VS.region tabOk (id := 2) [] (by kernel_rfl) ?_; generalize hK : VS _ _ _ = KK; simp [hF]; try subst hK; try (refine VS.keep [4, 5] ?_; generalize hK : VS _ _ _ = KK; simp; try subst hK))
      | (refine VS.region tabOk (id := 3) [] (by kernel_rfl) ?_; generalize hK : VS _ _ _ = KK; simp [hF]; try subst hK; try (refine VS.keep [4, 5] ?_; generalize hK : VS _ _ _ = KK; simp; try subst hK))
      | (refine VS.cond ?_; generalize hK1 : VS _ _ _ = KK1; generalize hK2 : VS _ _ _ = KK2; simp [hF]; try subst hK1; try subst hK2)
    try refine VS.ret ?_
    repeat first | refine blockN_ret ?_ | refine loopN_ret ?_
    refine endK.of [4, 5] [0] [] (by simp [hF]) (by simp [covers, mpre]) ?_
    simp [hF, retK, dSp, frozenOf, h]
  · obtain ⟨j, rfl, hj, h0⟩ := hasB_true h
    repeat first
      | refine VS.seq ?_
      | refine VS.skip ?_
      | refine VS.block ?_
      | refine VS.nil ?_
      | refine blockN_normal ?_
      | refine loopN_normal ?_
      | refine VS.exit ?_
      | refine blockN_hit ?_
      | refine blockN_miss (by decide) ?_
      | refine loopN_exit ?_
      | refine ⟨⟨by omega, by omega⟩, ?_⟩
      | (refine VS.region tabOk (id := 0) [] (by kernel_rfl) ?_; generalize hK : VS _ _ _ = KK; simp [hF, dSp, dObs_at hj, hj, h]; try subst hK; try (refine VS.keep [0, 1] ?_; generalize hK : VS _ _ _ = KK; simp; try subst hK))
      | (refine VS.region tabOk (id := 1) [] (by kernel_rfl) ?_; generalize hK : VS _ _ _ = KK; simp [hF, dSp, dObs_at hj, hj, h]; try subst hK; try (refine VS.keep [0, 1, 9] ?_; generalize hK : VS _ _ _ = KK; simp; try subst hK))
      | (refine VS.region tabOk (id := 2) [] (by kernel_rfl) ?_; generalize hK : VS _ _ _ = KK; simp [hF, dSp, dObs_at hj, hj, h]; try subst hK; try (refine VS.keep [4, 5] ?_; generalize hK : VS _ _ _ = KK; simp; try subst hK))
      | (refine VS.region tabOk (id := 3) [] (by kernel_rfl) ?_; generalize hK : VS _ _ _ = KK; simp [hF, dSp, dObs_at hj, hj, h]; try subst hK; try (refine VS.keep [4, 5] ?_; generalize hK : VS _ _ _ = KK; simp; try subst hK))
      | (refine VS.cond ?_; generalize hK1 : VS _ _ _ = KK1; generalize hK2 : VS _ _ _ = KK2; simp [hF, dSp, dObs_at hj, hj, h]; try subst hK1; try subst hK2)
    try refine VS.ret ?_
    repeat first | refine blockN_ret ?_ | refine loopN_ret ?_
    refine endK.of [4, 5] [0] [] (by simp [hF]) (by simp [covers, mpre]) ?_
    simp [hF, retK, dSp, frozenOf, h, obAt_eq hj]

/- (*cabochon/shape.Space).Parent -/
theorem parent_ok (S : Sp) (o : Int) : Meets Try.prog 35 [dSp S] (.cons (.ptr 0 [.d]) (.cons (avInt o) .nil))
    fun av X κ => av = two (parentOf S o) ∧ X = [dSp S] ∧ κ = [] := by
  refine Meets.of_vs tabOk Try.func35 (body := ?_) ?_ (by kernel_rfl) Try.ntmps35 (rs := [.tmp 4, .tmp 5]) (by kernel_rfl) rfl (by simp [AV.len]) (by simp only [envOf]; exact rfl) ?_
  rotate_left
  · rfl
  intro w0 I0 F0 hF
  repeat first
    | refine VS.seq ?_
    | refine VS.skip ?_
    | refine VS.block ?_
    | refine VS.nil ?_
    | refine blockN_normal ?_
    | refine loopN_normal ?_
    | refine VS.exit ?_
    | refine blockN_hit ?_
    | refine blockN_miss (by decide) ?_
    | refine loopN_exit ?_
    | refine ⟨⟨by omega, by omega⟩, ?_⟩
    | (refine VS.region tabOk (id := 0) [] (by kernel_rfl) ?_; generalize hK : VS _ _ _ = KK; simp [hF]; try subst hK; try (refine VS.keep [0, 1] ?_; generalize hK : VS _ _ _ = KK; simp; try subst hK))
    | (refine VS.region tabOk (id := 1) [] (by kernel_rfl) ?_; generalize hK : VS _ _ _ = KK; simp [hF]; try subst hK; try (refine VS.keep [0, 1, 9] ?_; generalize hK : VS _ _ _ = KK; simp; try subst hK))
    | (refine VS.region tabOk (id := 2) [] (by kernel_rfl) ?_; generalize hK : VS _ _ _ = KK; simp [hF]; try subst hK; try (refine VS.keep [4, 5] ?_; generalize hK : VS _ _ _ = KK; simp; try subst hK))
    | (refine VS.region tabOk (id := 3) [] (by kernel_rfl) ?_; generalize hK : VS _ _ _ = KK; simp [hF]; try subst hK; try (refine VS.keep [4, 5] ?_; generalize hK : VS _ _ _ = KK; simp; try subst hK))
    | (refine VS.cond ?_; generalize hK1 : VS _ _ _ = KK1; generalize hK2 : VS _ _ _ = KK2; simp [hF]; try subst hK1; try subst hK2)
  refine (shaped_ok S o).call [(0, [])] (by simp) (by simp [hF, dSp]) (by simp [hF, dSp]) (by simp [hF, dSp]) ?_
  rintro av X κ ⟨rfl, rfl, rfl⟩
  generalize hK : VS _ _ _ = KK; simp [hF, dSp]; try subst hK
  repeat first
    | refine VS.seq ?_
    | refine VS.skip ?_
    | refine VS.block ?_
    | refine VS.nil ?_
    | refine blockN_normal ?_
    | refine loopN_normal ?_
    | refine VS.exit ?_
    | refine blockN_hit ?_
    | refine blockN_miss (by decide) ?_
    | refine loopN_exit ?_
    | refine ⟨⟨by omega, by omega⟩, ?_⟩
    | (refine VS.region tabOk (id := 0) [] (by kernel_rfl) ?_; generalize hK : VS _ _ _ = KK; simp [hF]; try subst hK; try (refine VS.keep [0, 1] ?_; generalize hK : VS _ _ _ = KK; simp; try subst hK))
    | (refine VS.region tabOk (id := 1) [] (by kernel_rfl) ?_; generalize hK : VS _ _ _ = KK; simp [hF]; try subst hK; try (refine VS.keep [0, 1, 9] ?_; generalize hK : VS _ _ _ = KK; simp; try subst hK))
    | (refine VS.region tabOk (id := 2) [] (by kernel_rfl) ?_; generalize hK : VS _ _ _ = KK; simp [hF]; try subst hK; try (refine VS.keep [4, 5] ?_; generalize hK : VS _ _ _ = KK; simp; try subst hK))
    | (refine VS.region tabOk (id := 3) [] (by kernel_rfl) ?_; generalize hK : VS _ _ _ = KK; simp [hF]; try subst hK; try (refine VS.keep [4, 5] ?_; generalize hK : VS _ _ _ = KK; simp; try subst hK))
    | (refine VS.cond ?_; generalize hK1 : VS _ _ _ = KK1; generalize hK2 : VS _ _ _ = KK2; simp [hF]; try subst hK1; try subst hK2)
  refine ⟨fun h => ?_, fun h => ?_⟩
  · repeat first
      | refine VS.seq ?_
      | refine VS.skip ?_
      | refine VS.block ?_
      | refine VS.nil ?_
      | refine blockN_normal ?_
      | refine loopN_normal ?_
      | refine VS.exit ?_
      | refine blockN_hit ?_
      | refine blockN_miss (by decide) ?_
      | refine loopN_exit ?_
      | refine ⟨⟨by omega, by omega⟩, ?_⟩
      | (refine VS.region tabOk (id := 0) [] (by kernel_rfl) ?_; generalize hK : VS _ _ _ = KK; simp [hF]; try subst hK; try (refine VS.keep [0, 1] ?_; generalize hK : VS _ _ _ = KK; simp; try subst hK))
      | (refine VS.region tabOk (id := 1) [] (by kernel_rfl) ?_; generalize hK : VS _ _ _ = KK; simp [hF]; try subst hK; try (refine VS.keep [0, 1, 9] ?_; generalize hK : VS _ _ _ = KK; simp; try subst hK))
      | (refine VS.region tabOk (id := 2) [] (by kernel_rfl) ?_; generalize hK : VS _ _ _ = KK; simp [hF]; try subst hK; try (refine VS.keep [4, 5] ?_; generalize hK : VS _ _ _ = KK; simp; try subst hK))
      | (refine VS.region tabOk (id := 3) [] (by kernel_rfl) ?_; generalize hK : VS _ _ _ = KK; simp [hF]; try subst hK; try (refine VS.keep [4, 5] ?_; generalize hK : VS _ _ _ = KK; simp; try subst hK))
      | (refine VS.cond ?_; generalize hK1 : VS _ _ _ = KK1; generalize hK2 : VS _ _ _ = KK2; simp [hF]; try subst hK1; try subst hK2)
    try refine VS.ret ?_
    repeat first | refine blockN_ret ?_ | refine loopN_ret ?_
    refine endK.of [4, 5] [0] [] (by simp [hF]) (by simp [covers, mpre]) ?_
    simp [hF, retK, dSp, parentOf, h]
  · obtain ⟨j, rfl, hj⟩ := shapedB_true h
    repeat first
      | refine VS.seq ?_
      | refine VS.skip ?_
      | refine VS.block ?_
      | refine VS.nil ?_
      | refine blockN_normal ?_
      | refine loopN_normal ?_
      | refine VS.exit ?_
      | refine blockN_hit ?_
      | refine blockN_miss (by decide) ?_
      | refine loopN_exit ?_
      | refine ⟨⟨by omega, by omega⟩, ?_⟩
      | (refine VS.region tabOk (id := 0) [] (by kernel_rfl) ?_; generalize hK : VS _ _ _ = KK; simp [hF, dSp, dShs_at hj, hj, h]; try subst hK; try (refine VS.keep [0, 1] ?_; generalize hK : VS _ _ _ = KK; simp; try subst hK))
      | (refine VS.region tabOk (id := 1) [] (by kernel_rfl) ?_; generalize hK : VS _ _ _ = KK; simp [hF, dSp, dShs_at hj, hj, h]; try subst hK; try (refine VS.keep [0, 1, 9] ?_; generalize hK : VS _ _ _ = KK; simp; try subst hK))
      | (refine VS.region tabOk (id := 2) [] (by kernel_rfl) ?_; generalize hK : VS _ _ _ = KK; simp [hF, dSp, dShs_at hj, hj, h]; try subst hK; try (refine VS.keep [4, 5] ?_; generalize hK : VS _ _ _ = KK; simp; try subst hK))
      | (refine VS.region tabOk (id := 3) [] (by kernel_rfl) ?_; generalize hK : VS _ _ _ = KK; simp [hF, dSp, dShs_at hj, hj, h]; try subst hK; try (refine VS.keep [4, 5] ?_; generalize hK : VS _ _ _ = KK; simp; try subst hK))
      | (refine VS.cond ?_; generalize hK1 : VS _ _ _ = KK1; generalize hK2 : VS _ _ _ = KK2; simp [hF, dSp, dShs_at hj, hj, h]; try subst hK1; try subst hK2)
    try refine VS.ret ?_
    repeat first | refine blockN_ret ?_ | refine loopN_ret ?_
    refine endK.of [4, 5] [0] [] (by simp [hF]) (by simp [covers, mpre]) ?_
    simp [hF, retK, dSp, parentOf, h, hj]

/- (*cabochon/shape.Space).Shapes -/
theorem shapes_ok (S : Sp) : Meets Try.prog 21 [dSp S] (.cons (.ptr 0 [.d]) .nil)
    fun av X κ => av = avInt (shapesOf S) ∧ X = [dSp S] ∧ κ = [] := by
  refine Meets.of_vs tabOk Try.func21 (body := ?_) ?_ (by kernel_rfl) Try.ntmps21 (rs := [.tmp 2]) (by kernel_rfl) rfl (by simp [AV.len]) (by simp only [envOf]; exact rfl) ?_
  rotate_left
  · rfl
  intro w0 I0 F0 hF
  repeat first
    | refine VS.seq ?_
    | refine VS.skip ?_
    | refine VS.block ?_
    | refine VS.nil ?_
    | refine blockN_normal ?_
    | refine loopN_normal ?_
    | refine VS.exit ?_
    | refine blockN_hit ?_
    | refine blockN_miss (by decide) ?_
    | refine loopN_exit ?_
    | refine ⟨⟨by omega, by omega⟩, ?_⟩
    | (refine VS.region tabOk (id := 0) [] (by kernel_rfl) ?_; generalize hK : VS _ _ _ = KK; simp [hF]; try subst hK; try (refine VS.keep [0] ?_; generalize hK : VS _ _ _ = KK; simp; try subst hK))
    | (refine VS.region tabOk (id := 1) [] (by kernel_rfl) ?_; generalize hK : VS _ _ _ = KK; simp [hF]; try subst hK; try (refine VS.keep [0, 5] ?_; generalize hK : VS _ _ _ = KK; simp; try subst hK))
    | (refine VS.region tabOk (id := 2) [] (by kernel_rfl) ?_; generalize hK : VS _ _ _ = KK; simp [hF]; try subst hK; try (refine VS.keep [2] ?_; generalize hK : VS _ _ _ = KK; simp; try subst hK))
    | (refine VS.region tabOk (id := 3) [] (by kernel_rfl) ?_; generalize hK : VS _ _ _ = KK; simp [hF]; try subst hK; try (refine VS.keep [2] ?_; generalize hK : VS _ _ _ = KK; simp; try subst hK))
    | (refine VS.cond ?_; generalize hK1 : VS _ _ _ = KK1; generalize hK2 : VS _ _ _ = KK2; simp [hF]; try subst hK1; try subst hK2)
  refine (real_ok S).call [(0, [])] (by simp) (by simp [hF, dSp]) (by simp [hF, dSp]) (by simp [hF, dSp]) ?_
  rintro av X κ ⟨rfl, rfl, rfl⟩
  generalize hK : VS _ _ _ = KK; simp [hF, dSp]; try subst hK
  repeat first
    | refine VS.seq ?_
    | refine VS.skip ?_
    | refine VS.block ?_
    | refine VS.nil ?_
    | refine blockN_normal ?_
    | refine loopN_normal ?_
    | refine VS.exit ?_
    | refine blockN_hit ?_
    | refine blockN_miss (by decide) ?_
    | refine loopN_exit ?_
    | refine ⟨⟨by omega, by omega⟩, ?_⟩
    | (refine VS.region tabOk (id := 0) [] (by kernel_rfl) ?_; generalize hK : VS _ _ _ = KK; simp [hF]; try subst hK; try (refine VS.keep [0] ?_; generalize hK : VS _ _ _ = KK; simp; try subst hK))
    | (refine VS.region tabOk (id := 1) [] (by kernel_rfl) ?_; generalize hK : VS _ _ _ = KK; simp [hF]; try subst hK; try (refine VS.keep [0, 5] ?_; generalize hK : VS _ _ _ = KK; simp; try subst hK))
    | (refine VS.region tabOk (id := 2) [] (by kernel_rfl) ?_; generalize hK : VS _ _ _ = KK; simp [hF]; try subst hK; try (refine VS.keep [2] ?_; generalize hK : VS _ _ _ = KK; simp; try subst hK))
    | (refine VS.region tabOk (id := 3) [] (by kernel_rfl) ?_; generalize hK : VS _ _ _ = KK; simp [hF]; try subst hK; try (refine VS.keep [2] ?_; generalize hK : VS _ _ _ = KK; simp; try subst hK))
    | (refine VS.cond ?_; generalize hK1 : VS _ _ _ = KK1; generalize hK2 : VS _ _ _ = KK2; simp [hF]; try subst hK1; try subst hK2)
  refine ⟨fun h => ?_, fun h => ?_⟩
  · repeat first
      | refine VS.seq ?_
      | refine VS.skip ?_
      | refine VS.block ?_
      | refine VS.nil ?_
      | refine blockN_normal ?_
      | refine loopN_normal ?_
      | refine VS.exit ?_
      | refine blockN_hit ?_
      | refine blockN_miss (by decide) ?_
      | refine loopN_exit ?_
      | refine ⟨⟨by omega, by omega⟩, ?_⟩
      | (refine VS.region tabOk (id := 0) [] (by kernel_rfl) ?_; generalize hK : VS _ _ _ = KK; simp [hF]; try subst hK; try (refine VS.keep [0] ?_; generalize hK : VS _ _ _ = KK; simp; try subst hK))
      | (refine VS.region tabOk (id := 1) [] (by kernel_rfl) ?_; generalize hK : VS _ _ _ = KK; simp [hF]; try subst hK; try (refine VS.keep [0, 5] ?_; generalize hK : VS _ _ _ = KK; simp; try subst hK))
      | (refine VS.region tabOk (id := 2) [] (by kernel_rfl) ?_; generalize hK : VS _ _ _ = KK; simp [hF]; try subst hK; try (refine VS.keep [2] ?_; generalize hK : VS _ _ _ = KK; simp; try subst hK))
      | (refine VS.region tabOk (id := 3) [] (by kernel_rfl) ?_; generalize hK : VS _ _ _ = KK; simp [hF]; try subst hK; try (refine VS.keep [2] ?_; generalize hK : VS _ _ _ = KK; simp; try subst hK))
      | (refine VS.cond ?_; generalize hK1 : VS _ _ _ = KK1; generalize hK2 : VS _ _ _ = KK2; simp [hF]; try subst hK1; try subst hK2)
    simp [realB] at h
    try refine VS.ret ?_
    repeat first | refine blockN_ret ?_ | refine loopN_ret ?_
    refine endK.of [2] [0] [] (by simp [hF]) (by simp [covers, mpre]) ?_
    simp [hF, retK, dSp, shapesOf, h]
  · repeat first
      | refine VS.seq ?_
      | refine VS.skip ?_
      | refine VS.block ?_
      | refine VS.nil ?_
      | refine blockN_normal ?_
      | refine loopN_normal ?_
      | refine VS.exit ?_
      | refine blockN_hit ?_
      | refine blockN_miss (by decide) ?_
      | refine loopN_exit ?_
      | refine ⟨⟨by omega, by omega⟩, ?_⟩
      | (refine VS.region tabOk (id := 0) [] (by kernel_rfl) ?_; generalize hK : VS _ _ _ = KK; simp [hF, dSp]; try subst hK; try (refine VS.keep [0] ?_; generalize hK : VS _ _ _ = KK; simp; try subst hK))
      | (refine VS.region tabOk (id := 1) [] (by kernel_rfl) ?_; generalize hK : VS _ _ _ = KK; simp [hF, dSp]; try subst hK; try (refine VS.keep [0, 5] ?_; generalize hK : VS _ _ _ = KK; simp; try subst hK))
      | (refine VS.region tabOk (id := 2) [] (by kernel_rfl) ?_; generalize hK : VS _ _ _ = KK; simp [hF, dSp]; try subst hK; try (refine VS.keep [2] ?_; generalize hK : VS _ _ _ = KK; simp; try subst hK))
      | (refine VS.region tabOk (id := 3) [] (by kernel_rfl) ?_; generalize hK : VS _ _ _ = KK; simp [hF, dSp]; try subst hK; try (refine VS.keep [2] ?_; generalize hK : VS _ _ _ = KK; simp; try subst hK))
      | (refine VS.cond ?_; generalize hK1 : VS _ _ _ = KK1; generalize hK2 : VS _ _ _ = KK2; simp [hF, dSp]; try subst hK1; try subst hK2)
    try refine VS.ret ?_
    repeat first | refine blockN_ret ?_ | refine loopN_ret ?_
    refine endK.of [2] [0] [] (by simp [hF]) (by simp [covers, mpre]) ?_
    simp [hF, retK, dSp, shapesOf, h]

/- (*cabochon/shape.Space).Freeze -/
theorem freeze_ok (S : Sp) (o : Int) : Meets Try.prog 50 [dSp S] (.cons (.ptr 0 [.d]) (.cons (avInt o) .nil))
    fun av X κ => av = avInt (freezeOf S o).2 ∧ X = [dSp (freezeOf S o).1] ∧ κ = [(0, [.d])] := by
  refine Meets.of_vs tabOk Try.func50 (body := ?_) ?_ (by kernel_rfl) Try.ntmps50 (rs := [.tmp 4]) (by kernel_rfl) rfl (by simp [AV.len]) (by simp only [envOf]; exact rfl) ?_
  rotate_left
  · rfl
  intro w0 I0 F0 hF
  repeat first
    | refine VS.seq ?_
    | refine VS.skip ?_
    | refine VS.block ?_
    | refine VS.nil ?_
    | refine blockN_normal ?_
    | refine loopN_normal ?_
    | refine VS.exit ?_
    | refine blockN_hit ?_
    | refine blockN_miss (by decide) ?_
    | refine loopN_exit ?_
    | refine ⟨⟨by omega, by omega⟩, ?_⟩
    | (refine VS.region tabOk (id := 0) [] (by kernel_rfl) ?_; generalize hK : VS _ _ _ = KK; simp [hF]; try subst hK; try (refine VS.keep [0, 1] ?_; generalize hK : VS _ _ _ = KK; simp; try subst hK))
    | (refine VS.region tabOk (id := 1) [] (by kernel_rfl) ?_; generalize hK : VS _ _ _ = KK; simp [hF]; try subst hK; try (refine VS.keep [0, 1, 8] ?_; generalize hK : VS _ _ _ = KK; simp; try subst hK))
    | (refine VS.region tabOk (id := 2) [] (by kernel_rfl) ?_; generalize hK : VS _ _ _ = KK; simp [hF]; try subst hK; try (refine VS.keep [4] ?_; generalize hK : VS _ _ _ = KK; simp; try subst hK))
    | (refine VS.region tabOk (id := 3) [] (by kernel_rfl) ?_; generalize hK : VS _ _ _ = KK; simp [hF]; try subst hK; try (refine VS.keep [] ?_; generalize hK : VS _ _ _ = KK; simp; try subst hK))
    | (refine VS.region tabOk (id := 4) [] (by kernel_rfl) ?_; generalize hK : VS _ _ _ = KK; simp [hF]; try subst hK; try (refine VS.keep [4] ?_; generalize hK : VS _ _ _ = KK; simp; try subst hK))
    | (refine VS.cond ?_; generalize hK1 : VS _ _ _ = KK1; generalize hK2 : VS _ _ _ = KK2; simp [hF]; try subst hK1; try subst hK2)
  refine (has_ok S o).call [(0, [])] (by simp) (by simp [hF, dSp]) (by simp [hF, dSp]) (by simp [hF, dSp]) ?_
  rintro av X κ ⟨rfl, rfl, rfl⟩
  generalize hK : VS _ _ _ = KK; simp [hF, dSp]; try subst hK
  repeat first
    | refine VS.seq ?_
    | refine VS.skip ?_
    | refine VS.block ?_
    | refine VS.nil ?_
    | refine blockN_normal ?_
    | refine loopN_normal ?_
    | refine VS.exit ?_
    | refine blockN_hit ?_
    | refine blockN_miss (by decide) ?_
    | refine loopN_exit ?_
    | refine ⟨⟨by omega, by omega⟩, ?_⟩
    | (refine VS.region tabOk (id := 0) [] (by kernel_rfl) ?_; generalize hK : VS _ _ _ = KK; simp [hF]; try subst hK; try (refine VS.keep [0, 1] ?_; generalize hK : VS _ _ _ = KK; simp; try subst hK))
    | (refine VS.region tabOk (id := 1) [] (by kernel_rfl) ?_; generalize hK : VS _ _ _ = KK; simp [hF]; try subst hK; try (refine VS.keep [0, 1, 8] ?_; generalize hK : VS _ _ _ = KK; simp; try subst hK))
    | (refine VS.region tabOk (id := 2) [] (by kernel_rfl) ?_; generalize hK : VS _ _ _ = KK; simp [hF]; try subst hK; try (refine VS.keep [4] ?_; generalize hK : VS _ _ _ = KK; simp; try subst hK))
    | (refine VS.region tabOk (id := 3) [] (by kernel_rfl) ?_; generalize hK : VS _ _ _ = KK; simp [hF]; try subst hK; try (refine VS.keep [] ?_; generalize hK : VS _ _ _ = KK; simp; try subst hK))
    | (refine VS.region tabOk (id := 4) [] (by kernel_rfl) ?_; generalize hK : VS _ _ _ = KK; simp [hF]; try subst hK; try (refine VS.keep [4] ?_; generalize hK : VS _ _ _ = KK; simp; try subst hK))
    | (refine VS.cond ?_; generalize hK1 : VS _ _ _ = KK1; generalize hK2 : VS _ _ _ = KK2; simp [hF]; try subst hK1; try subst hK2)
  refine ⟨fun h => ?_, fun h => ?_⟩
  · repeat first
      | refine VS.seq ?_
      | refine VS.skip ?_
      | refine VS.block ?_
      | refine VS.nil ?_
      | refine blockN_normal ?_
      | refine loopN_normal ?_
      | refine VS.exit ?_
      | refine blockN_hit ?_
      | refine blockN_miss (by decide) ?_
      | refine loopN_exit ?_
      | refine ⟨⟨by omega, by omega⟩, ?_⟩
      | (refine VS.region tabOk (id := 0) [] (by kernel_rfl) ?_; generalize hK : VS _ _ _ = KK; simp [hF]; try subst hK; try (refine VS.keep [0, 1] ?_; generalize hK : VS _ _ _ = KK; simp; try subst hK))
      | (refine VS.region tabOk (id := 1) [] (by kernel_rfl) ?_; generalize hK : VS _ _ _ = KK; simp [hF]; try subst hK; try (refine VS.keep [0, 1, 8] ?_; generalize hK : VS _ _ _ = KK; simp; try subst hK))
      | (refine VS.region tabOk (id := 2) [] (by kernel_rfl) ?_; generalize hK : VS _ _ _ = KK; simp [hF]; try subst hK; try (refine VS.keep [4] ?_; generalize hK : VS _ _ _ = KK; simp; try subst hK))
      | (refine VS.region tabOk (id := 3) [] (by kernel_rfl) ?_; generalize hK : VS _ _ _ = KK; simp [hF]; try subst hK; try (refine VS.keep [] ?_; generalize hK : VS _ _ _ = KK; simp; try subst hK))
      | (refine VS.region tabOk (id := 4) [] (by kernel_rfl) ?_; generalize hK : VS _ _ _ = KK; simp [hF]; try subst hK; try (refine VS.keep [4] ?_; generalize hK : VS _ _ _ = KK; simp; try subst hK))
      | (refine VS.cond ?_; generalize hK1 : VS _ _ _ = KK1; generalize hK2 : VS _ _ _ = KK2; simp [hF]; try subst hK1; try subst hK2)
    try refine VS.ret ?_
    repeat first | refine blockN_ret ?_ | refine loopN_ret ?_
    refine endK.of [4] [0] [(0, [.d])] (by simp [hF]) (by simp [covers, mpre]) ?_
    simp [hF, retK, dSp, freezeOf, h]
  · obtain ⟨j, rfl, hj, h0⟩ := hasB_true h
    have e1 := dObs_set S.objs j { S.objs[j] with frozen := true }
    have e2 : ownOf { S.objs[j] with frozen := true } = ownOf S.objs[j] := rfl
    rw [e2] at e1
    repeat first
      | refine VS.seq ?_
      | refine VS.skip ?_
      | refine VS.block ?_
      | refine VS.nil ?_
      | refine blockN_normal ?_
      | refine loopN_normal ?_
      | refine VS.exit ?_
      | refine blockN_hit ?_
      | refine blockN_miss (by decide) ?_
      | refine loopN_exit ?_
      | refine ⟨⟨by omega, by omega⟩, ?_⟩
      | (refine VS.region tabOk (id := 0) [] (by kernel_rfl) ?_; generalize hK : VS _ _ _ = KK; simp [hF, dSp, dObs_at hj, hj, h]; try subst hK; try (refine VS.keep [0, 1] ?_; generalize hK : VS _ _ _ = KK; simp; try subst hK))
      | (refine VS.region tabOk (id := 1) [] (by kernel_rfl) ?_; generalize hK : VS _ _ _ = KK; simp [hF, dSp, dObs_at hj, hj, h]; try subst hK; try (refine VS.keep [0, 1, 8] ?_; generalize hK : VS _ _ _ = KK; simp; try subst hK))
      | (refine VS.region tabOk (id := 2) [] (by kernel_rfl) ?_; generalize hK : VS _ _ _ = KK; simp [hF, dSp, dObs_at hj, hj, h]; try subst hK; try (refine VS.keep [4] ?_; generalize hK : VS _ _ _ = KK; simp; try subst hK))
      | (refine VS.region tabOk (id := 3) [] (by kernel_rfl) ?_; generalize hK : VS _ _ _ = KK; simp [hF, dSp, dObs_at hj, hj, h]; try subst hK; try (refine VS.keep [] ?_; generalize hK : VS _ _ _ = KK; simp; try subst hK))
      | (refine VS.region tabOk (id := 4) [] (by kernel_rfl) ?_; generalize hK : VS _ _ _ = KK; simp [hF, dSp, dObs_at hj, hj, h]; try subst hK; try (refine VS.keep [4] ?_; generalize hK : VS _ _ _ = KK; simp; try subst hK))
      | (refine VS.cond ?_; generalize hK1 : VS _ _ _ = KK1; generalize hK2 : VS _ _ _ = KK2; simp [hF, dSp, dObs_at hj, hj, h]; try subst hK1; try subst hK2)
    try refine VS.ret ?_
    repeat first | refine blockN_ret ?_ | refine loopN_ret ?_
    refine endK.of [4] [0] [(0, [.d])] (by simp [hF]) (by simp [covers, mpre]) ?_
    simp [hF, retK, dSp, freezeOf, h, obAt_eq hj, setOb, e1]

/- (*cabochon/shape.Space).Names -/
theorem names1_ok (S : Sp) {N : Nat} (hS : WF S N) (hN : N ≤ 1000000) (o : Int) : Meets Try.prog 27 [dSp S] (.cons (.ptr 0 [.d]) (.cons (avInt o) .nil))
    fun av X κ => (if hasB S o = false then av = .tup (.cons (.nils 1) (.cons (avInt 1) .nil)) ∧ X = [dSp S]
      else av = .tup (.cons (.sub 1 [] 0 (obAt S o).names.length false) (.cons (avInt 0) .nil)) ∧ X = [dSp S, .sl true () 1 (dStrs (obAt S o).names)]) ∧ κ = [] := by
  refine Meets.of_vs tabOk Try.func27 (body := ?_) ?_ (by kernel_rfl) Try.ntmps27 (rs := [.tmp 4, .tmp 5]) (by kernel_rfl) rfl (by simp [AV.len]) (by simp only [envOf]; exact rfl) ?_
  rotate_left
  · rfl
  intro w0 I0 F0 hF
  repeat first
    | refine VS.seq ?_
    | refine VS.skip ?_
    | refine VS.block ?_
    | refine VS.nil ?_
    | refine blockN_normal ?_
    | refine loopN_normal ?_
    | refine VS.exit ?_
    | refine blockN_hit ?_
    | refine blockN_miss (by decide) ?_
    | refine loopN_exit ?_
    | refine ⟨⟨by omega, by omega⟩, ?_⟩
    | (refine VS.region tabOk (id := 0) [] (by kernel_rfl) ?_; generalize hK : VS _ _ _ = KK; simp [hF]; try subst hK; try (refine VS.keep [0, 1] ?_; generalize hK : VS _ _ _ = KK; simp; try subst hK))
    | (refine VS.region tabOk (id := 1) [] (by kernel_rfl) ?_; generalize hK : VS _ _ _ = KK; simp [hF]; try subst hK; try (refine VS.keep [0, 1, 9] ?_; generalize hK : VS _ _ _ = KK; simp; try subst hK))
    | (refine VS.region tabOk (id := 2) [] (by kernel_rfl) ?_; generalize hK : VS _ _ _ = KK; simp [hF]; try subst hK; try (refine VS.keep [4, 5] ?_; generalize hK : VS _ _ _ = KK; simp; try subst hK))
    | (refine VS.region tabOk (id := 3) [] (by kernel_rfl) ?_; generalize hK : VS _ _ _ = KK; simp [hF]; try subst hK; try (refine VS.keep [4, 5] ?_; generalize hK : VS _ _ _ = KK; simp; try subst hK))
    | (refine VS.cond ?_; generalize hK1 : VS _ _ _ = KK1; generalize hK2 : VS _ _ _ = KK2; simp [hF]; try subst hK1; try subst hK2)
  refine (has_ok S o).call [(0, [])] (by simp) (by simp [hF, dSp]) (by simp [hF, dSp]) (by simp [hF, dSp]) ?_
  rintro av X κ ⟨rfl, rfl, rfl⟩
  generalize hK : VS _ _ _ = KK; simp [hF, dSp]; try subst hK
  repeat first
    | refine VS.seq ?_
    | refine VS.skip ?_
    | refine VS.block ?_
    | refine VS.nil ?_
    | refine blockN_normal ?_
    | refine loopN_normal ?_
    | refine VS.exit ?_
    | refine blockN_hit ?_
    | refine blockN_miss (by decide) ?_
    | refine loopN_exit ?_
    | refine ⟨⟨by omega, by omega⟩, ?_⟩
    | (refine VS.region tabOk (id := 0) [] (by kernel_rfl) ?_; generalize hK : VS _ _ _ = KK; simp [hF]; try subst hK; try (refine VS.keep [0, 1] ?_; generalize hK : VS _ _ _ = KK; simp; try subst hK))
    | (refine VS.region tabOk (id := 1) [] (by kernel_rfl) ?_; generalize hK : VS _ _ _ = KK; simp [hF]; try subst hK; try (refine VS.keep [0, 1, 9] ?_; generalize hK : VS _ _ _ = KK; simp; try subst hK))
    | (refine VS.region tabOk (id := 2) [] (by kernel_rfl) ?_; generalize hK : VS _ _ _ = KK; simp [hF]; try subst hK; try (refine VS.keep [4, 5] ?_; generalize hK : VS _ _ _ = KK; simp; try subst hK))
    | (refine VS.region tabOk (id := 3) [] (by kernel_rfl) ?_; generalize hK : VS _ _ _ = KK; simp [hF]; try subst hK; try (refine VS.keep [4, 5] ?_; generalize hK : VS _ _ _ = KK; simp; try subst hK))
    | (refine VS.cond ?_; generalize hK1 : VS _ _ _ = KK1; generalize hK2 : VS _ _ _ = KK2; simp [hF]; try subst hK1; try subst hK2)
  refine ⟨fun h => ?_, fun h => ?_⟩
  · repeat first
      | refine VS.seq ?_
      | refine VS.skip ?_
      | refine VS.block ?_
      | refine VS.nil ?_
      | refine blockN_normal ?_
      | refine loopN_normal ?_
      | refine VS.exit ?_
      | refine blockN_hit ?_
      | refine blockN_miss (by decide) ?_
      | refine loopN_exit ?_
      | refine ⟨⟨by omega, by omega⟩, ?_⟩
      | (refine VS.region tabOk (id := 0) [] (by kernel_rfl) ?_; generalize hK : VS _ _ _ = KK; simp [hF]; try subst hK; try (refine VS.keep [0, 1] ?_; generalize hK : VS _ _ _ = KK; simp; try subst hK))
      | (refine VS.region tabOk (id := 1) [] (by kernel_rfl) ?_; generalize hK : VS _ _ _ = KK; simp [hF]; try subst hK; try (refine VS.keep [0, 1, 9] ?_; generalize hK : VS _ _ _ = KK; simp; try subst hK))
      | (refine VS.region tabOk (id := 2) [] (by kernel_rfl) ?_; generalize hK : VS _ _ _ = KK; simp [hF]; try subst hK; try (refine VS.keep [4, 5] ?_; generalize hK : VS _ _ _ = KK; simp; try subst hK))
      | (refine VS.region tabOk (id := 3) [] (by kernel_rfl) ?_; generalize hK : VS _ _ _ = KK; simp [hF]; try subst hK; try (refine VS.keep [4, 5] ?_; generalize hK : VS _ _ _ = KK; simp; try subst hK))
      | (refine VS.cond ?_; generalize hK1 : VS _ _ _ = KK1; generalize hK2 : VS _ _ _ = KK2; simp [hF]; try subst hK1; try subst hK2)
    try refine VS.ret ?_
    repeat first | refine blockN_ret ?_ | refine loopN_ret ?_
    refine endK.of [4, 5] [0] [] (by simp [hF]) (by simp [covers, mpre]) ?_
    simp [hF, retK, dSp, h]
  · obtain ⟨j, rfl, hj, h0⟩ := hasB_true h
    repeat first
      | refine VS.seq ?_
      | refine VS.skip ?_
      | refine VS.block ?_
      | refine VS.nil ?_
      | refine blockN_normal ?_
      | refine loopN_normal ?_
      | refine VS.exit ?_
      | refine blockN_hit ?_
      | refine blockN_miss (by decide) ?_
      | refine loopN_exit ?_
      | refine ⟨⟨by omega, by omega⟩, ?_⟩
      | (refine VS.region tabOk (id := 0) [] (by kernel_rfl) ?_; generalize hK : VS _ _ _ = KK; simp [hF, dSp, dObs_at hj, hj, h]; try subst hK; try (refine VS.keep [0, 1] ?_; generalize hK : VS _ _ _ = KK; simp; try subst hK))
      | (refine VS.region tabOk (id := 1) [] (by kernel_rfl) ?_; generalize hK : VS _ _ _ = KK; simp [hF, dSp, dObs_at hj, hj, h]; try subst hK; try (refine VS.keep [0, 1, 9] ?_; generalize hK : VS _ _ _ = KK; simp; try subst hK))
      | (refine VS.region tabOk (id := 2) [] (by kernel_rfl) ?_; generalize hK : VS _ _ _ = KK; simp [hF, dSp, dObs_at hj, hj, h]; try subst hK; try (refine VS.keep [4, 5] ?_; generalize hK : VS _ _ _ = KK; simp; try subst hK))
      | (refine VS.region tabOk (id := 3) [] (by kernel_rfl) ?_; generalize hK : VS _ _ _ = KK; simp [hF, dSp, dObs_at hj, hj, h]; try subst hK; try (refine VS.keep [4, 5] ?_; generalize hK : VS _ _ _ = KK; simp; try subst hK))
      | (refine VS.cond ?_; generalize hK1 : VS _ _ _ = KK1; generalize hK2 : VS _ _ _ = KK2; simp [hF, dSp, dObs_at hj, hj, h]; try subst hK1; try subst hK2)
    refine (names_ok S hS.sh j hj (hS.ob _ (List.getElem_mem hj)) hN).call [(0, [])] (by simp) (by simp [hF, dSp, avOb]) (by simp [hF, dSp, avOb]) (by simp [hF, dSp, avOb]) ?_
    rintro av X κ ⟨rfl, rfl, rfl⟩
    generalize hK : VS _ _ _ = KK; simp [hF, dSp, avOb]; try subst hK
    repeat first
      | refine VS.seq ?_
      | refine VS.skip ?_
      | refine VS.block ?_
      | refine VS.nil ?_
      | refine blockN_normal ?_
      | refine loopN_normal ?_
      | refine VS.exit ?_
      | refine blockN_hit ?_
      | refine blockN_miss (by decide) ?_
      | refine loopN_exit ?_
      | refine ⟨⟨by omega, by omega⟩, ?_⟩
      | (refine VS.region tabOk (id := 0) [] (by kernel_rfl) ?_; generalize hK : VS _ _ _ = KK; simp [hF]; try subst hK; try (refine VS.keep [0, 1] ?_; generalize hK : VS _ _ _ = KK; simp; try subst hK))
      | (refine VS.region tabOk (id := 1) [] (by kernel_rfl) ?_; generalize hK : VS _ _ _ = KK; simp [hF]; try subst hK; try (refine VS.keep [0, 1, 9] ?_; generalize hK : VS _ _ _ = KK; simp; try subst hK))
      | (refine VS.region tabOk (id := 2) [] (by kernel_rfl) ?_; generalize hK : VS _ _ _ = KK; simp [hF]; try subst hK; try (refine VS.keep [4, 5] ?_; generalize hK : VS _ _ _ = KK; simp; try subst hK))
      | (refine VS.region tabOk (id := 3) [] (by kernel_rfl) ?_; generalize hK : VS _ _ _ = KK; simp [hF]; try subst hK; try (refine VS.keep [4, 5] ?_; generalize hK : VS _ _ _ = KK; simp; try subst hK))
      | (refine VS.cond ?_; generalize hK1 : VS _ _ _ = KK1; generalize hK2 : VS _ _ _ = KK2; simp [hF]; try subst hK1; try subst hK2)
    try refine VS.ret ?_
    repeat first | refine blockN_ret ?_ | refine loopN_ret ?_
    refine endK.of [4, 5] [0, 1] [] (by simp [hF]) (by simp [covers, mpre]) ?_
    simp [hF, retK, dSp, h, obAt_eq hj]

/- (*cabochon/shape.Space).Make -/
theorem make_ok (S : Sp) : Meets Try.prog 15 [dSp S] (.cons (.ptr 0 [.d]) .nil)
    fun av X κ => av = two (makeOf S).2 ∧ X = [dSp (makeOf S).1] ∧ κ = [(0, [.d])] := by
  refine Meets.of_vs tabOk Try.func15 (body := ?_) ?_ (by kernel_rfl) Try.ntmps15 (rs := [.tmp 2, .tmp 3]) (by kernel_rfl) rfl (by simp [AV.len]) (by simp only [envOf]; exact rfl) ?_
  rotate_left
  · rfl
  intro w0 I0 F0 hF
  repeat first
    | refine VS.seq ?_
    | refine VS.skip ?_
    | refine VS.block ?_
    | refine VS.nil ?_
    | refine blockN_normal ?_
    | refine loopN_normal ?_
    | refine VS.exit ?_
    | refine blockN_hit ?_
    | refine blockN_miss (by decide) ?_
    | refine loopN_exit ?_
    | refine ⟨⟨by omega, by omega⟩, ?_⟩
    | (refine VS.region tabOk (id := 0) [] (by kernel_rfl) ?_; generalize hK : VS _ _ _ = KK; simp [hF]; try subst hK; try (refine VS.keep [0] ?_; generalize hK : VS _ _ _ = KK; simp; try subst hK))
    | (refine VS.region tabOk (id := 1) [] (by kernel_rfl) ?_; generalize hK : VS _ _ _ = KK; simp [hF]; try subst hK; try (refine VS.keep [0, 6] ?_; generalize hK : VS _ _ _ = KK; simp; try subst hK))
    | (refine VS.region tabOk (id := 2) [] (by kernel_rfl) ?_; generalize hK : VS _ _ _ = KK; simp [hF]; try subst hK; try (refine VS.keep [2, 3] ?_; generalize hK : VS _ _ _ = KK; simp; try subst hK))
    | (refine VS.region tabOk (id := 3) [] (by kernel_rfl) ?_; generalize hK : VS _ _ _ = KK; simp [hF]; try subst hK; try (refine VS.keep [0, 12] ?_; generalize hK : VS _ _ _ = KK; simp; try subst hK))
    | (refine VS.region tabOk (id := 4) [] (by kernel_rfl) ?_; generalize hK : VS _ _ _ = KK; simp [hF]; try subst hK; try (refine VS.keep [2, 3] ?_; generalize hK : VS _ _ _ = KK; simp; try subst hK))
    | (refine VS.region tabOk (id := 5) [] (by kernel_rfl) ?_; generalize hK : VS _ _ _ = KK; simp [hF]; try subst hK; try (refine VS.keep [0] ?_; generalize hK : VS _ _ _ = KK; simp; try subst hK))
    | (refine VS.region tabOk (id := 6) [] (by kernel_rfl) ?_; generalize hK : VS _ _ _ = KK; simp [hF]; try subst hK; try (refine VS.keep [2, 3] ?_; generalize hK : VS _ _ _ = KK; simp; try subst hK))
    | (refine VS.cond ?_; generalize hK1 : VS _ _ _ = KK1; generalize hK2 : VS _ _ _ = KK2; simp [hF]; try subst hK1; try subst hK2)
  refine (real_ok S).call [(0, [])] (by simp) (by simp [hF, dSp]) (by simp [hF, dSp]) (by simp [hF, dSp]) ?_
  rintro av X κ ⟨rfl, rfl, rfl⟩
  generalize hK : VS _ _ _ = KK; simp [hF, dSp]; try subst hK
  repeat first
    | refine VS.seq ?_
    | refine VS.skip ?_
    | refine VS.block ?_
    | refine VS.nil ?_
    | refine blockN_normal ?_
    | refine loopN_normal ?_
    | refine VS.exit ?_
    | refine blockN_hit ?_
    | refine blockN_miss (by decide) ?_
    | refine loopN_exit ?_
    | refine ⟨⟨by omega, by omega⟩, ?_⟩
    | (refine VS.region tabOk (id := 0) [] (by kernel_rfl) ?_; generalize hK : VS _ _ _ = KK; simp [hF]; try subst hK; try (refine VS.keep [0] ?_; generalize hK : VS _ _ _ = KK; simp; try subst hK))
    | (refine VS.region tabOk (id := 1) [] (by kernel_rfl) ?_; generalize hK : VS _ _ _ = KK; simp [hF]; try subst hK; try (refine VS.keep [0, 6] ?_; generalize hK : VS _ _ _ = KK; simp; try subst hK))
    | (refine VS.region tabOk (id := 2) [] (by kernel_rfl) ?_; generalize hK : VS _ _ _ = KK; simp [hF]; try subst hK; try (refine VS.keep [2, 3] ?_; generalize hK : VS _ _ _ = KK; simp; try subst hK))
    | (refine VS.region tabOk (id := 3) [] (by kernel_rfl) ?_; generalize hK : VS _ _ _ = KK; simp [hF]; try subst hK; try (refine VS.keep [0, 12] ?_; generalize hK : VS _ _ _ = KK; simp; try subst hK))
    | (refine VS.region tabOk (id := 4) [] (by kernel_rfl) ?_; generalize hK : VS _ _ _ = KK; simp [hF]; try subst hK; try (refine VS.keep [2, 3] ?_; generalize hK : VS _ _ _ = KK; simp; try subst hK))
    | (refine VS.region tabOk (id := 5) [] (by kernel_rfl) ?_; generalize hK : VS _ _ _ = KK; simp [hF]; try subst hK; try (refine VS.keep [0] ?_; generalize hK : VS _ _ _ = KK; simp; try subst hK))
    | (refine VS.region tabOk (id := 6) [] (by kernel_rfl) ?_; generalize hK : VS _ _ _ = KK; simp [hF]; try subst hK; try (refine VS.keep [2, 3] ?_; generalize hK : VS _ _ _ = KK; simp; try subst hK))
    | (refine VS.cond ?_; generalize hK1 : VS _ _ _ = KK1; generalize hK2 : VS _ _ _ = KK2; simp [hF]; try subst hK1; try subst hK2)
  refine ⟨fun h => ?_, fun h => ?_⟩
  · repeat first
      | refine VS.seq ?_
      | refine VS.skip ?_
      | refine VS.block ?_
      | refine VS.nil ?_
      | refine blockN_normal ?_
      | refine loopN_normal ?_
      | refine VS.exit ?_
      | refine blockN_hit ?_
      | refine blockN_miss (by decide) ?_
      | refine loopN_exit ?_
      | refine ⟨⟨by omega, by omega⟩, ?_⟩
      | (refine VS.region tabOk (id := 0) [] (by kernel_rfl) ?_; generalize hK : VS _ _ _ = KK; simp [hF]; try subst hK; try (refine VS.keep [0] ?_; generalize hK : VS _ _ _ = KK; simp; try subst hK))
      | (refine VS.region tabOk (id := 1) [] (by kernel_rfl) ?_; generalize hK : VS _ _ _ = KK; simp [hF]; try subst hK; try (refine VS.keep [0, 6] ?_; generalize hK : VS _ _ _ = KK; simp; try subst hK))
      | (refine VS.region tabOk (id := 2) [] (by kernel_rfl) ?_; generalize hK : VS _ _ _ = KK; simp [hF]; try subst hK; try (refine VS.keep [2, 3] ?_; generalize hK : VS _ _ _ = KK; simp; try subst hK))
      | (refine VS.region tabOk (id := 3) [] (by kernel_rfl) ?_; generalize hK : VS _ _ _ = KK; simp [hF]; try subst hK; try (refine VS.keep [0, 12] ?_; generalize hK : VS _ _ _ = KK; simp; try subst hK))
      | (refine VS.region tabOk (id := 4) [] (by kernel_rfl) ?_; generalize hK : VS _ _ _ = KK; simp [hF]; try subst hK; try (refine VS.keep [2, 3] ?_; generalize hK : VS _ _ _ = KK; simp; try subst hK))
      | (refine VS.region tabOk (id := 5) [] (by kernel_rfl) ?_; generalize hK : VS _ _ _ = KK; simp [hF]; try subst hK; try (refine VS.keep [0] ?_; generalize hK : VS _ _ _ = KK; simp; try subst hK))
      | (refine VS.region tabOk (id := 6) [] (by kernel_rfl) ?_; generalize hK : VS _ _ _ = KK; simp [hF]; try subst hK; try (refine VS.keep [2, 3] ?_; generalize hK : VS _ _ _ = KK; simp; try subst hK))
      | (refine VS.cond ?_; generalize hK1 : VS _ _ _ = KK1; generalize hK2 : VS _ _ _ = KK2; simp [hF]; try subst hK1; try subst hK2)
    try refine VS.ret ?_
    repeat first | refine blockN_ret ?_ | refine loopN_ret ?_
    refine endK.of [2, 3] [0] [(0, [.d])] (by simp [hF]) (by simp [covers, mpre]) ?_
    simp [hF, retK, dSp, makeOf, h]
  · repeat first
      | refine VS.seq ?_
      | refine VS.skip ?_
      | refine VS.block ?_
      | refine VS.nil ?_
      | refine blockN_normal ?_
      | refine loopN_normal ?_
      | refine VS.exit ?_
      | refine blockN_hit ?_
      | refine blockN_miss (by decide) ?_
      | refine loopN_exit ?_
      | refine ⟨⟨by omega, by omega⟩, ?_⟩
      | (refine VS.region tabOk (id := 0) [] (by kernel_rfl) ?_; generalize hK : VS _ _ _ = KK; simp [hF, dSp, h]; try subst hK; try (refine VS.keep [0] ?_; generalize hK : VS _ _ _ = KK; simp; try subst hK))
      | (refine VS.region tabOk (id := 1) [] (by kernel_rfl) ?_; generalize hK : VS _ _ _ = KK; simp [hF, dSp, h]; try subst hK; try (refine VS.keep [0, 6] ?_; generalize hK : VS _ _ _ = KK; simp; try subst hK))
      | (refine VS.region tabOk (id := 2) [] (by kernel_rfl) ?_; generalize hK : VS _ _ _ = KK; simp [hF, dSp, h]; try subst hK; try (refine VS.keep [2, 3] ?_; generalize hK : VS _ _ _ = KK; simp; try subst hK))
      | (refine VS.region tabOk (id := 3) [] (by kernel_rfl) ?_; generalize hK : VS _ _ _ = KK; simp [hF, dSp, h]; try subst hK; try (refine VS.keep [0, 12] ?_; generalize hK : VS _ _ _ = KK; simp; try subst hK))
      | (refine VS.region tabOk (id := 4) [] (by kernel_rfl) ?_; generalize hK : VS _ _ _ = KK; simp [hF, dSp, h]; try subst hK; try (refine VS.keep [2, 3] ?_; generalize hK : VS _ _ _ = KK; simp; try subst hK))
      | (refine VS.region tabOk (id := 5) [] (by kernel_rfl) ?_; generalize hK : VS _ _ _ = KK; simp [hF, dSp, h]; try subst hK; try (refine VS.keep [0] ?_; generalize hK : VS _ _ _ = KK; simp; try subst hK))
      | (refine VS.region tabOk (id := 6) [] (by kernel_rfl) ?_; generalize hK : VS _ _ _ = KK; simp [hF, dSp, h]; try subst hK; try (refine VS.keep [2, 3] ?_; generalize hK : VS _ _ _ = KK; simp; try subst hK))
      | (refine VS.cond ?_; generalize hK1 : VS _ _ _ = KK1; generalize hK2 : VS _ _ _ = KK2; simp [hF, dSp, h]; try subst hK1; try subst hK2)
    refine ⟨fun h1 => ?_, fun h1 => ?_⟩
    · repeat first
        | refine VS.seq ?_
        | refine VS.skip ?_
        | refine VS.block ?_
        | refine VS.nil ?_
        | refine blockN_normal ?_
        | refine loopN_normal ?_
        | refine VS.exit ?_
        | refine blockN_hit ?_
        | refine blockN_miss (by decide) ?_
        | refine loopN_exit ?_
        | refine ⟨⟨by omega, by omega⟩, ?_⟩
        | (refine VS.region tabOk (id := 0) [] (by kernel_rfl) ?_; generalize hK : VS _ _ _ = KK; simp [hF]; try subst hK; try (refine VS.keep [0] ?_; generalize hK : VS _ _ _ = KK; simp; try subst hK))
        | (refine VS.region tabOk (id := 1) [] (by kernel_rfl) ?_; generalize hK : VS _ _ _ = KK; simp [hF]; try subst hK; try (refine VS.keep [0, 6] ?_; generalize hK : VS _ _ _ = KK; simp; try subst hK))
        | (refine VS.region tabOk (id := 2) [] (by kernel_rfl) ?_; generalize hK : VS _ _ _ = KK; simp [hF]; try subst hK; try (refine VS.keep [2, 3] ?_; generalize hK : VS _ _ _ = KK; simp; try subst hK))
        | (refine VS.region tabOk (id := 3) [] (by kernel_rfl) ?_; generalize hK : VS _ _ _ = KK; simp [hF]; try subst hK; try (refine VS.keep [0, 12] ?_; generalize hK : VS _ _ _ = KK; simp; try subst hK))
        | (refine VS.region tabOk (id := 4) [] (by kernel_rfl) ?_; generalize hK : VS _ _ _ = KK; simp [hF]; try subst hK; try (refine VS.keep [2, 3] ?_; generalize hK : VS _ _ _ = KK; simp; try subst hK))
        | (refine VS.region tabOk (id := 5) [] (by kernel_rfl) ?_; generalize hK : VS _ _ _ = KK; simp [hF]; try subst hK; try (refine VS.keep [0] ?_; generalize hK : VS _ _ _ = KK; simp; try subst hK))
        | (refine VS.region tabOk (id := 6) [] (by kernel_rfl) ?_; generalize hK : VS _ _ _ = KK; simp [hF]; try subst hK; try (refine VS.keep [2, 3] ?_; generalize hK : VS _ _ _ = KK; simp; try subst hK))
        | (refine VS.cond ?_; generalize hK1 : VS _ _ _ = KK1; generalize hK2 : VS _ _ _ = KK2; simp [hF]; try subst hK1; try subst hK2)
      have h1' : 100 ≤ S.objs.length := by omega
      try refine VS.ret ?_
      repeat first | refine blockN_ret ?_ | refine loopN_ret ?_
      refine endK.of [2, 3] [0] [(0, [.d])] (by simp [hF]) (by simp [covers, mpre]) ?_
      simp [hF, retK, dSp, makeOf, h, h1']
    · repeat first
        | refine VS.seq ?_
        | refine VS.skip ?_
        | refine VS.block ?_
        | refine VS.nil ?_
        | refine blockN_normal ?_
        | refine loopN_normal ?_
        | refine VS.exit ?_
        | refine blockN_hit ?_
        | refine blockN_miss (by decide) ?_
        | refine loopN_exit ?_
        | refine ⟨⟨by omega, by omega⟩, ?_⟩
        | (refine VS.region tabOk (id := 0) [] (by kernel_rfl) ?_; generalize hK : VS _ _ _ = KK; simp [hF]; try subst hK; try (refine VS.keep [0] ?_; generalize hK : VS _ _ _ = KK; simp; try subst hK))
        | (refine VS.region tabOk (id := 1) [] (by kernel_rfl) ?_; generalize hK : VS _ _ _ = KK; simp [hF]; try subst hK; try (refine VS.keep [0, 6] ?_; generalize hK : VS _ _ _ = KK; simp; try subst hK))
        | (refine VS.region tabOk (id := 2) [] (by kernel_rfl) ?_; generalize hK : VS _ _ _ = KK; simp [hF]; try subst hK; try (refine VS.keep [2, 3] ?_; generalize hK : VS _ _ _ = KK; simp; try subst hK))
        | (refine VS.region tabOk (id := 3) [] (by kernel_rfl) ?_; generalize hK : VS _ _ _ = KK; simp [hF]; try subst hK; try (refine VS.keep [0, 12] ?_; generalize hK : VS _ _ _ = KK; simp; try subst hK))
        | (refine VS.region tabOk (id := 4) [] (by kernel_rfl) ?_; generalize hK : VS _ _ _ = KK; simp [hF]; try subst hK; try (refine VS.keep [2, 3] ?_; generalize hK : VS _ _ _ = KK; simp; try subst hK))
        | (refine VS.region tabOk (id := 6) [] (by kernel_rfl) ?_; generalize hK : VS _ _ _ = KK; simp [hF]; try subst hK; try (refine VS.keep [2, 3] ?_; generalize hK : VS _ _ _ = KK; simp; try subst hK))
        | (refine VS.cond ?_; generalize hK1 : VS _ _ _ = KK1; generalize hK2 : VS _ _ _ = KK2; simp [hF]; try subst hK1; try subst hK2)
      refine VS.lift 0 [.d, .f 1] (by simp) (by simp) (by simp [isNode]) (by simp) ?_
      generalize hK : VS _ _ _ = KK; simp [hF, St.lift, AV.lift, liftPl, stripP, nodeAV]; try subst hK
      have hpush := dObs_push S.objs ⟨0, [], [], false⟩
      simp [ownOf, dStrs_nil, dInts_nil] at hpush
      repeat first
        | refine VS.seq ?_
        | refine VS.skip ?_
        | refine VS.block ?_
        | refine VS.nil ?_
        | refine blockN_normal ?_
        | refine loopN_normal ?_
        | refine VS.exit ?_
        | refine blockN_hit ?_
        | refine blockN_miss (by decide) ?_
        | refine loopN_exit ?_
        | refine ⟨⟨by omega, by omega⟩, ?_⟩
        | (refine VS.region tabOk (id := 0) [] (by kernel_rfl) ?_; generalize hK : VS _ _ _ = KK; simp [hF, dSp, hpush]; try subst hK; try (refine VS.keep [0] ?_; generalize hK : VS _ _ _ = KK; simp; try subst hK))
        | (refine VS.region tabOk (id := 1) [] (by kernel_rfl) ?_; generalize hK : VS _ _ _ = KK; simp [hF, dSp, hpush]; try subst hK; try (refine VS.keep [0, 6] ?_; generalize hK : VS _ _ _ = KK; simp; try subst hK))
        | (refine VS.region tabOk (id := 2) [] (by kernel_rfl) ?_; generalize hK : VS _ _ _ = KK; simp [hF, dSp, hpush]; try subst hK; try (refine VS.keep [2, 3] ?_; generalize hK : VS _ _ _ = KK; simp; try subst hK))
        | (refine VS.region tabOk (id := 3) [] (by kernel_rfl) ?_; generalize hK : VS _ _ _ = KK; simp [hF, dSp, hpush]; try subst hK; try (refine VS.keep [0, 12] ?_; generalize hK : VS _ _ _ = KK; simp; try subst hK))
        | (refine VS.region tabOk (id := 4) [] (by kernel_rfl) ?_; generalize hK : VS _ _ _ = KK; simp [hF, dSp, hpush]; try subst hK; try (refine VS.keep [2, 3] ?_; generalize hK : VS _ _ _ = KK; simp; try subst hK))
        | (refine VS.region tabOk (id := 5) [] (by kernel_rfl) ?_; generalize hK : VS _ _ _ = KK; simp [hF, dSp, hpush]; try subst hK; try (refine VS.keep [0] ?_; generalize hK : VS _ _ _ = KK; simp; try subst hK))
        | (refine VS.region tabOk (id := 6) [] (by kernel_rfl) ?_; generalize hK : VS _ _ _ = KK; simp [hF, dSp, hpush]; try subst hK; try (refine VS.keep [2, 3] ?_; generalize hK : VS _ _ _ = KK; simp; try subst hK))
        | (refine VS.cond ?_; generalize hK1 : VS _ _ _ = KK1; generalize hK2 : VS _ _ _ = KK2; simp [hF, dSp, hpush]; try subst hK1; try subst hK2)
      have h1' : ¬ 100 ≤ S.objs.length := by omega
      have hw : IntKind.i64.wrap (S.objs.length : Int) = S.objs.length := IntWalk.i64_in _ (by omega)
      try refine VS.ret ?_
      repeat first | refine blockN_ret ?_ | refine loopN_ret ?_
      refine endK.of [2, 3] [0] [(0, [.d])] (by simp [hF]) (by simp [covers, mpre]) ?_
      simp [hF, retK, dSp, makeOf, h, h1', hw]
end Go.Proofs.Ythcndkpkkaphoaa
