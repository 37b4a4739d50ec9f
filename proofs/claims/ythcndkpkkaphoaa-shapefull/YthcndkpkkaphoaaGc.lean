/- Set, Get, Slot, Clone. -/
import Derived.Test.YthcndkpkkaphoaaGb
import Derived.Test.YthcndkpkkaphoaaGa
namespace Go.Proofs.Ythcndkpkkaphoaa
set_option linter.all false
open Go.Vc Go.Proofs
set_option linter.unusedSimpArgs false
set_option maxRecDepth 100000
set_option maxHeartbeats 4000000

theorem askOf_cases (S : Sp) (o : Int) (n : ByteArray) (c : Bool) : askOf S o n c ≠ 0 ∨ (askOf S o n c = 0 ∧ ∃ j : Nat, o = j ∧ j < S.objs.length) := by
  by_cases h : askOf S o n c = 0
  · refine .inr ⟨h, ?_⟩
    unfold askOf at h
    split at h
    · simp at h
    · rename_i h1
      obtain ⟨j, h2, h3, _⟩ := hasB_true (by simpa using h1)
      exact ⟨j, h2, h3⟩
  · exact .inl h

/- (*cabochon/shape.Space).Get -/
theorem get_ok (S : Sp) {N : Nat} (hS : WF S N) (hN : N ≤ 1000000) (o : Int) (n : ByteArray) : Meets Try.prog 31 [dSp S] (.cons (.ptr 0 [.d]) (.cons (avInt o) (.cons (.val (.string n)) .nil)))
    fun av X κ => av = two (getOf S o n) ∧ X = [dSp S] ∧ κ = [] := by
  refine Meets.of_vs tabOk Try.func31 (body := ?_) ?_ (by kernel_rfl) Try.ntmps31 (rs := [.tmp 6, .tmp 7]) (by kernel_rfl) rfl (by simp [AV.len]) (by simp only [envOf]; exact rfl) ?_
  rotate_left
  · rfl
  intro w0 I0 F0 hF
  repeat first
    | refine VS.seq ?_
    | refine VS.skip ?_
    | refine VS.block ?_
    | refine VS.nil ?_
    | refine blockN_normal ?_
    | refine loopN_normal ?_
    | refine VS.exit ?_
    | refine blockN_hit ?_
    | refine blockN_miss (by decide) ?_
    | refine loopN_exit ?_
    | refine ⟨⟨by omega, by omega⟩, ?_⟩
    | (refine VS.region tabOk (id := 0) [] (by kernel_rfl) ?_; generalize hK : VS _ _ _ = KK; simp [hF]; try subst hK; try (refine VS.keep [0, 1, 2] ?_; generalize hK : VS _ _ _ = KK; simp; try subst hK))
    | (refine VS.region tabOk (id := 1) [] (by kernel_rfl) ?_; generalize hK : VS _ _ _ = KK; simp [hF]; try subst hK; try (refine VS.keep [0, 1, 2, 8] ?_; generalize hK : VS _ _ _ = KK; simp; try subst hK))
    | (refine VS.region tabOk (id := 2) [] (by kernel_rfl) ?_; generalize hK : VS _ _ _ = KK; simp [hF]; try subst hK; try (refine VS.keep [0, 1, 2, 8, 15] ?_; generalize hK : VS _ _ _ = KK; simp; try subst hK))
    | (refine VS.region tabOk (id := 3) [] (by kernel_rfl) ?_; generalize hK : VS _ _ _ = KK; simp [hF]; try subst hK; try (refine VS.keep [6, 7] ?_; generalize hK : VS _ _ _ = KK; simp; try subst hK))
    | (refine VS.region tabOk (id := 4) [] (by kernel_rfl) ?_; generalize hK : VS _ _ _ = KK; simp [hF]; try subst hK; try (refine VS.keep [0, 1, 9] ?_; generalize hK : VS _ _ _ = KK; simp; try subst hK))
    | (refine VS.region tabOk (id := 5) [] (by kernel_rfl) ?_; generalize hK : VS _ _ _ = KK; simp [hF]; try subst hK; try (refine VS.keep [0, 1, 9, 29] ?_; generalize hK : VS _ _ _ = KK; simp; try subst hK))
    | (refine VS.region tabOk (id := 6) [] (by kernel_rfl) ?_; generalize hK : VS _ _ _ = KK; simp [hF]; try subst hK; try (refine VS.keep [6, 7] ?_; generalize hK : VS _ _ _ = KK; simp; try subst hK))
    | (refine VS.region tabOk (id := 7) [] (by kernel_rfl) ?_; generalize hK : VS _ _ _ = KK; simp [hF]; try subst hK; try (refine VS.keep [6, 7] ?_; generalize hK : VS _ _ _ = KK; simp; try subst hK))
    | (refine VS.cond ?_; generalize hK1 : VS _ _ _ = KK1; generalize hK2 : VS _ _ _ = KK2; simp [hF]; try subst hK1; try subst hK2)
  refine (ask_ok S o n false).call [(0, [])] (by simp) (by simp [hF, dSp]) (by simp [hF, dSp]) (by simp [hF, dSp]) ?_
  rintro av X κ ⟨rfl, rfl, rfl⟩
  generalize hK : VS _ _ _ = KK; simp [hF, dSp]; try subst hK
  rcases askOf_cases S o n false with he | ⟨he, j, rfl, hj⟩
  · repeat first
      | refine VS.seq ?_
      | refine VS.skip ?_
      | refine VS.block ?_
      | refine VS.nil ?_
      | refine blockN_normal ?_
      | refine loopN_normal ?_
      | refine VS.exit ?_
      | refine blockN_hit ?_
      | refine blockN_miss (by decide) ?_
      | refine loopN_exit ?_
      | refine ⟨⟨by omega, by omega⟩, ?_⟩
      | (refine VS.region tabOk (id := 0) [] (by kernel_rfl) ?_; generalize hK : VS _ _ _ = KK; simp [hF, he]; try subst hK; try (refine VS.keep [0, 1, 2] ?_; generalize hK : VS _ _ _ = KK; simp; try subst hK))
      | (refine VS.region tabOk (id := 1) [] (by kernel_rfl) ?_; generalize hK : VS _ _ _ = KK; simp [hF, he]; try subst hK; try (refine VS.keep [0, 1, 2, 8] ?_; generalize hK : VS _ _ _ = KK; simp; try subst hK))
      | (refine VS.region tabOk (id := 2) [] (by kernel_rfl) ?_; generalize hK : VS _ _ _ = KK; simp [hF, he]; try subst hK; try (refine VS.keep [0, 1, 2, 8, 15] ?_; generalize hK : VS _ _ _ = KK; simp; try subst hK))
      | (refine VS.region tabOk (id := 3) [] (by kernel_rfl) ?_; generalize hK : VS _ _ _ = KK; simp [hF, he]; try subst hK; try (refine VS.keep [6, 7] ?_; generalize hK : VS _ _ _ = KK; simp; try subst hK))
      | (refine VS.region tabOk (id := 4) [] (by kernel_rfl) ?_; generalize hK : VS _ _ _ = KK; simp [hF, he]; try subst hK; try (refine VS.keep [0, 1, 9] ?_; generalize hK : VS _ _ _ = KK; simp; try subst hK))
      | (refine VS.region tabOk (id := 5) [] (by kernel_rfl) ?_; generalize hK : VS _ _ _ = KK; simp [hF, he]; try subst hK; try (refine VS.keep [0, 1, 9, 29] ?_; generalize hK : VS _ _ _ = KK; simp; try subst hK))
      | (refine VS.region tabOk (id := 6) [] (by kernel_rfl) ?_; generalize hK : VS _ _ _ = KK; simp [hF, he]; try subst hK; try (refine VS.keep [6, 7] ?_; generalize hK : VS _ _ _ = KK; simp; try subst hK))
      | (refine VS.region tabOk (id := 7) [] (by kernel_rfl) ?_; generalize hK : VS _ _ _ = KK; simp [hF, he]; try subst hK; try (refine VS.keep [6, 7] ?_; generalize hK : VS _ _ _ = KK; simp; try subst hK))
      | (refine VS.cond ?_; generalize hK1 : VS _ _ _ = KK1; generalize hK2 : VS _ _ _ = KK2; simp [hF, he]; try subst hK1; try subst hK2)
    try refine VS.ret ?_
    repeat first | refine blockN_ret ?_ | refine loopN_ret ?_
    refine endK.of [6, 7] [0] [] (by simp [hF]) (by simp [covers, mpre]) ?_
    simp [hF, retK, dSp, getOf, he]
  · repeat first
      | refine VS.seq ?_
      | refine VS.skip ?_
      | refine VS.block ?_
      | refine VS.nil ?_
      | refine blockN_normal ?_
      | refine loopN_normal ?_
      | refine VS.exit ?_
      | refine blockN_hit ?_
      | refine blockN_miss (by decide) ?_
      | refine loopN_exit ?_
      | refine ⟨⟨by omega, by omega⟩, ?_⟩
      | (refine VS.region tabOk (id := 0) [] (by kernel_rfl) ?_; generalize hK : VS _ _ _ = KK; simp [hF, dSp, dObs_at hj, hj, he]; try subst hK; try (refine VS.keep [0, 1, 2] ?_; generalize hK : VS _ _ _ = KK; simp; try subst hK))
      | (refine VS.region tabOk (id := 1) [] (by kernel_rfl) ?_; generalize hK : VS _ _ _ = KK; simp [hF, dSp, dObs_at hj, hj, he]; try subst hK; try (refine VS.keep [0, 1, 2, 8] ?_; generalize hK : VS _ _ _ = KK; simp; try subst hK))
      | (refine VS.region tabOk (id := 2) [] (by kernel_rfl) ?_; generalize hK : VS _ _ _ = KK; simp [hF, dSp, dObs_at hj, hj, he]; try subst hK; try (refine VS.keep [0, 1, 2, 8, 15] ?_; generalize hK : VS _ _ _ = KK; simp; try subst hK))
      | (refine VS.region tabOk (id := 3) [] (by kernel_rfl) ?_; generalize hK : VS _ _ _ = KK; simp [hF, dSp, dObs_at hj, hj, he]; try subst hK; try (refine VS.keep [6, 7] ?_; generalize hK : VS _ _ _ = KK; simp; try subst hK))
      | (refine VS.region tabOk (id := 4) [] (by kernel_rfl) ?_; generalize hK : VS _ _ _ = KK; simp [hF, dSp, dObs_at hj, hj, he]; try subst hK; try (refine VS.keep [0, 1, 9] ?_; generalize hK : VS _ _ _ = KK; simp; try subst hK))
      | (refine VS.region tabOk (id := 5) [] (by kernel_rfl) ?_; generalize hK : VS _ _ _ = KK; simp [hF, dSp, dObs_at hj, hj, he]; try subst hK; try (refine VS.keep [0, 1, 9, 29] ?_; generalize hK : VS _ _ _ = KK; simp; try subst hK))
      | (refine VS.region tabOk (id := 6) [] (by kernel_rfl) ?_; generalize hK : VS _ _ _ = KK; simp [hF, dSp, dObs_at hj, hj, he]; try subst hK; try (refine VS.keep [6, 7] ?_; generalize hK : VS _ _ _ = KK; simp; try subst hK))
      | (refine VS.region tabOk (id := 7) [] (by kernel_rfl) ?_; generalize hK : VS _ _ _ = KK; simp [hF, dSp, dObs_at hj, hj, he]; try subst hK; try (refine VS.keep [6, 7] ?_; generalize hK : VS _ _ _ = KK; simp; try subst hK))
      | (refine VS.cond ?_; generalize hK1 : VS _ _ _ = KK1; generalize hK2 : VS _ _ _ = KK2; simp [hF, dSp, dObs_at hj, hj, he]; try subst hK1; try subst hK2)
    have ho := hS.ob _ (List.getElem_mem hj)
    have hnl := ho.names_len
    have hwl := ho.1
    refine (names_ok S hS.sh j hj ho hN).call [(0, [])] (by simp) (by simp [hF, dSp, avOb]) (by simp [hF, dSp, avOb]) (by simp [hF, dSp, avOb]) ?_
    rintro av X κ ⟨rfl, rfl, rfl⟩
    generalize hK : VS _ _ _ = KK; simp [hF, dSp, avOb]; try subst hK
    repeat first
      | refine VS.seq ?_
      | refine VS.skip ?_
      | refine VS.block ?_
      | refine VS.nil ?_
      | refine blockN_normal ?_
      | refine loopN_normal ?_
      | refine VS.exit ?_
      | refine blockN_hit ?_
      | refine blockN_miss (by decide) ?_
      | refine loopN_exit ?_
      | refine ⟨⟨by omega, by omega⟩, ?_⟩
      | (refine VS.region tabOk (id := 0) [] (by kernel_rfl) ?_; generalize hK : VS _ _ _ = KK; simp [hF]; try subst hK; try (refine VS.keep [0, 1, 2] ?_; generalize hK : VS _ _ _ = KK; simp; try subst hK))
      | (refine VS.region tabOk (id := 1) [] (by kernel_rfl) ?_; generalize hK : VS _ _ _ = KK; simp [hF]; try subst hK; try (refine VS.keep [0, 1, 2, 8] ?_; generalize hK : VS _ _ _ = KK; simp; try subst hK))
      | (refine VS.region tabOk (id := 2) [] (by kernel_rfl) ?_; generalize hK : VS _ _ _ = KK; simp [hF]; try subst hK; try (refine VS.keep [0, 1, 2, 8, 15] ?_; generalize hK : VS _ _ _ = KK; simp; try subst hK))
      | (refine VS.region tabOk (id := 3) [] (by kernel_rfl) ?_; generalize hK : VS _ _ _ = KK; simp [hF]; try subst hK; try (refine VS.keep [6, 7] ?_; generalize hK : VS _ _ _ = KK; simp; try subst hK))
      | (refine VS.region tabOk (id := 4) [] (by kernel_rfl) ?_; generalize hK : VS _ _ _ = KK; simp [hF]; try subst hK; try (refine VS.keep [0, 1, 9] ?_; generalize hK : VS _ _ _ = KK; simp; try subst hK))
      | (refine VS.region tabOk (id := 5) [] (by kernel_rfl) ?_; generalize hK : VS _ _ _ = KK; simp [hF]; try subst hK; try (refine VS.keep [0, 1, 9, 29] ?_; generalize hK : VS _ _ _ = KK; simp; try subst hK))
      | (refine VS.region tabOk (id := 6) [] (by kernel_rfl) ?_; generalize hK : VS _ _ _ = KK; simp [hF]; try subst hK; try (refine VS.keep [6, 7] ?_; generalize hK : VS _ _ _ = KK; simp; try subst hK))
      | (refine VS.region tabOk (id := 7) [] (by kernel_rfl) ?_; generalize hK : VS _ _ _ = KK; simp [hF]; try subst hK; try (refine VS.keep [6, 7] ?_; generalize hK : VS _ _ _ = KK; simp; try subst hK))
      | (refine VS.cond ?_; generalize hK1 : VS _ _ _ = KK1; generalize hK2 : VS _ _ _ = KK2; simp [hF]; try subst hK1; try subst hK2)
    refine (index_ok true false S.objs[j].names n (by omega)).call [(1, [])] (by simp) (by simp [hF, dSp]) (by simp [hF, dSp]) (by simp [hF, dSp]) ?_
    rintro av X κ ⟨rfl, rfl, rfl⟩
    generalize hK : VS _ _ _ = KK; simp [hF, dSp]; try subst hK
    repeat first
      | refine VS.seq ?_
      | refine VS.skip ?_
      | refine VS.block ?_
      | refine VS.nil ?_
      | refine blockN_normal ?_
      | refine loopN_normal ?_
      | refine VS.exit ?_
      | refine blockN_hit ?_
      | refine blockN_miss (by decide) ?_
      | refine loopN_exit ?_
      | refine ⟨⟨by omega, by omega⟩, ?_⟩
      | (refine VS.region tabOk (id := 0) [] (by kernel_rfl) ?_; generalize hK : VS _ _ _ = KK; simp [hF]; try subst hK; try (refine VS.keep [0, 1, 2] ?_; generalize hK : VS _ _ _ = KK; simp; try subst hK))
      | (refine VS.region tabOk (id := 1) [] (by kernel_rfl) ?_; generalize hK : VS _ _ _ = KK; simp [hF]; try subst hK; try (refine VS.keep [0, 1, 2, 8] ?_; generalize hK : VS _ _ _ = KK; simp; try subst hK))
      | (refine VS.region tabOk (id := 2) [] (by kernel_rfl) ?_; generalize hK : VS _ _ _ = KK; simp [hF]; try subst hK; try (refine VS.keep [0, 1, 2, 8, 15] ?_; generalize hK : VS _ _ _ = KK; simp; try subst hK))
      | (refine VS.region tabOk (id := 3) [] (by kernel_rfl) ?_; generalize hK : VS _ _ _ = KK; simp [hF]; try subst hK; try (refine VS.keep [6, 7] ?_; generalize hK : VS _ _ _ = KK; simp; try subst hK))
      | (refine VS.region tabOk (id := 4) [] (by kernel_rfl) ?_; generalize hK : VS _ _ _ = KK; simp [hF]; try subst hK; try (refine VS.keep [0, 1, 9] ?_; generalize hK : VS _ _ _ = KK; simp; try subst hK))
      | (refine VS.region tabOk (id := 5) [] (by kernel_rfl) ?_; generalize hK : VS _ _ _ = KK; simp [hF]; try subst hK; try (refine VS.keep [0, 1, 9, 29] ?_; generalize hK : VS _ _ _ = KK; simp; try subst hK))
      | (refine VS.region tabOk (id := 6) [] (by kernel_rfl) ?_; generalize hK : VS _ _ _ = KK; simp [hF]; try subst hK; try (refine VS.keep [6, 7] ?_; generalize hK : VS _ _ _ = KK; simp; try subst hK))
      | (refine VS.region tabOk (id := 7) [] (by kernel_rfl) ?_; generalize hK : VS _ _ _ = KK; simp [hF]; try subst hK; try (refine VS.keep [6, 7] ?_; generalize hK : VS _ _ _ = KK; simp; try subst hK))
      | (refine VS.cond ?_; generalize hK1 : VS _ _ _ = KK1; generalize hK2 : VS _ _ _ = KK2; simp [hF]; try subst hK1; try subst hK2)
    refine ⟨fun h => ?_, fun h => ?_⟩
    · repeat first
        | refine VS.seq ?_
        | refine VS.skip ?_
        | refine VS.block ?_
        | refine VS.nil ?_
        | refine blockN_normal ?_
        | refine loopN_normal ?_
        | refine VS.exit ?_
        | refine blockN_hit ?_
        | refine blockN_miss (by decide) ?_
        | refine loopN_exit ?_
        | refine ⟨⟨by omega, by omega⟩, ?_⟩
        | (refine VS.region tabOk (id := 0) [] (by kernel_rfl) ?_; generalize hK : VS _ _ _ = KK; simp [hF]; try subst hK; try (refine VS.keep [0, 1, 2] ?_; generalize hK : VS _ _ _ = KK; simp; try subst hK))
        | (refine VS.region tabOk (id := 1) [] (by kernel_rfl) ?_; generalize hK : VS _ _ _ = KK; simp [hF]; try subst hK; try (refine VS.keep [0, 1, 2, 8] ?_; generalize hK : VS _ _ _ = KK; simp; try subst hK))
        | (refine VS.region tabOk (id := 2) [] (by kernel_rfl) ?_; generalize hK : VS _ _ _ = KK; simp [hF]; try subst hK; try (refine VS.keep [0, 1, 2, 8, 15] ?_; generalize hK : VS _ _ _ = KK; simp; try subst hK))
        | (refine VS.region tabOk (id := 3) [] (by kernel_rfl) ?_; generalize hK : VS _ _ _ = KK; simp [hF]; try subst hK; try (refine VS.keep [6, 7] ?_; generalize hK : VS _ _ _ = KK; simp; try subst hK))
        | (refine VS.region tabOk (id := 4) [] (by kernel_rfl) ?_; generalize hK : VS _ _ _ = KK; simp [hF]; try subst hK; try (refine VS.keep [0, 1, 9] ?_; generalize hK : VS _ _ _ = KK; simp; try subst hK))
        | (refine VS.region tabOk (id := 5) [] (by kernel_rfl) ?_; generalize hK : VS _ _ _ = KK; simp [hF]; try subst hK; try (refine VS.keep [0, 1, 9, 29] ?_; generalize hK : VS _ _ _ = KK; simp; try subst hK))
        | (refine VS.region tabOk (id := 6) [] (by kernel_rfl) ?_; generalize hK : VS _ _ _ = KK; simp [hF]; try subst hK; try (refine VS.keep [6, 7] ?_; generalize hK : VS _ _ _ = KK; simp; try subst hK))
        | (refine VS.region tabOk (id := 7) [] (by kernel_rfl) ?_; generalize hK : VS _ _ _ = KK; simp [hF]; try subst hK; try (refine VS.keep [6, 7] ?_; generalize hK : VS _ _ _ = KK; simp; try subst hK))
        | (refine VS.cond ?_; generalize hK1 : VS _ _ _ = KK1; generalize hK2 : VS _ _ _ = KK2; simp [hF]; try subst hK1; try subst hK2)
      try refine VS.ret ?_
      repeat first | refine blockN_ret ?_ | refine loopN_ret ?_
      refine endK.of [6, 7] [0] [] (by simp [hF]) (by simp [covers, mpre]) ?_
      simp [hF, retK, dSp, getOf, he, obAt_eq hj, h]
    · have h' : ¬ posIn n S.objs[j].names < 0 := by omega
      have hlt : (posIn n S.objs[j].names).toNat < S.objs[j].words.length := by
        rcases posBy_cases (fun x => decide (x = n)) S.objs[j].names with ⟨h1, _⟩ | ⟨i, hi, h1, _⟩
        · simp only [posIn] at h; omega
        · simp only [posIn, h1]; omega
      have hlt' : posIn n S.objs[j].names < S.objs[j].words.length := by omega
      have hnth := dInts_nth hlt
      repeat first
        | refine VS.seq ?_
        | refine VS.skip ?_
        | refine VS.block ?_
        | refine VS.nil ?_
        | refine blockN_normal ?_
        | refine loopN_normal ?_
        | refine VS.exit ?_
        | refine blockN_hit ?_
        | refine blockN_miss (by decide) ?_
        | refine loopN_exit ?_
        | refine ⟨⟨by omega, by omega⟩, ?_⟩
        | (refine VS.region tabOk (id := 0) [] (by kernel_rfl) ?_; generalize hK : VS _ _ _ = KK; simp [hF, dSp, dObs_at hj, hj, h, hlt, hlt', hnth]; try subst hK; try (refine VS.keep [0, 1, 2] ?_; generalize hK : VS _ _ _ = KK; simp; try subst hK))
        | (refine VS.region tabOk (id := 1) [] (by kernel_rfl) ?_; generalize hK : VS _ _ _ = KK; simp [hF, dSp, dObs_at hj, hj, h, hlt, hlt', hnth]; try subst hK; try (refine VS.keep [0, 1, 2, 8] ?_; generalize hK : VS _ _ _ = KK; simp; try subst hK))
        | (refine VS.region tabOk (id := 2) [] (by kernel_rfl) ?_; generalize hK : VS _ _ _ = KK; simp [hF, dSp, dObs_at hj, hj, h, hlt, hlt', hnth]; try subst hK; try (refine VS.keep [0, 1, 2, 8, 15] ?_; generalize hK : VS _ _ _ = KK; simp; try subst hK))
        | (refine VS.region tabOk (id := 3) [] (by kernel_rfl) ?_; generalize hK : VS _ _ _ = KK; simp [hF, dSp, dObs_at hj, hj, h, hlt, hlt', hnth]; try subst hK; try (refine VS.keep [6, 7] ?_; generalize hK : VS _ _ _ = KK; simp; try subst hK))
        | (refine VS.region tabOk (id := 4) [] (by kernel_rfl) ?_; generalize hK : VS _ _ _ = KK; simp [hF, dSp, dObs_at hj, hj, h, hlt, hlt', hnth]; try subst hK; try (refine VS.keep [0, 1, 9] ?_; generalize hK : VS _ _ _ = KK; simp; try subst hK))
        | (refine VS.region tabOk (id := 5) [] (by kernel_rfl) ?_; generalize hK : VS _ _ _ = KK; simp [hF, dSp, dObs_at hj, hj, h, hlt, hlt', hnth]; try subst hK; try (refine VS.keep [0, 1, 9, 29] ?_; generalize hK : VS _ _ _ = KK; simp; try subst hK))
        | (refine VS.region tabOk (id := 6) [] (by kernel_rfl) ?_; generalize hK : VS _ _ _ = KK; simp [hF, dSp, dObs_at hj, hj, h, hlt, hlt', hnth]; try subst hK; try (refine VS.keep [6, 7] ?_; generalize hK : VS _ _ _ = KK; simp; try subst hK))
        | (refine VS.region tabOk (id := 7) [] (by kernel_rfl) ?_; generalize hK : VS _ _ _ = KK; simp [hF, dSp, dObs_at hj, hj, h, hlt, hlt', hnth]; try subst hK; try (refine VS.keep [6, 7] ?_; generalize hK : VS _ _ _ = KK; simp; try subst hK))
        | (refine VS.cond ?_; generalize hK1 : VS _ _ _ = KK1; generalize hK2 : VS _ _ _ = KK2; simp [hF, dSp, dObs_at hj, hj, h, hlt, hlt', hnth]; try subst hK1; try subst hK2)
      try refine VS.ret ?_
      repeat first | refine blockN_ret ?_ | refine loopN_ret ?_
      refine endK.of [6, 7] [0] [] (by simp [hF]) (by simp [covers, mpre]) ?_
      simp [hF, retK, dSp, getOf, he, obAt_eq hj, h', hlt]

/- (*cabochon/shape.Space).Slot -/
theorem slot_ok (S : Sp) (hS : ShOk S.shapes) (k : Int) (n : ByteArray) : Meets Try.prog 34 [dSp S] (.cons (.ptr 0 [.d]) (.cons (avInt k) (.cons (.val (.string n)) .nil)))
    fun av X κ => av = two (slotOf S k n) ∧ X = [dSp S] ∧ κ = [] := by
  refine Meets.of_vs tabOk Try.func34 (body := ?_) ?_ (by kernel_rfl) Try.ntmps34 (rs := [.tmp 6, .tmp 7]) (by kernel_rfl) rfl (by simp [AV.len]) (by simp only [envOf]; exact rfl) ?_
  rotate_left
  · rfl
  intro w0 I0 F0 hF
  repeat first
    | refine VS.seq ?_
    | refine VS.skip ?_
    | refine VS.block ?_
    | refine VS.nil ?_
    | refine blockN_normal ?_
    | refine loopN_normal ?_
    | refine VS.exit ?_
    | refine blockN_hit ?_
    | refine blockN_miss (by decide) ?_
    | refine loopN_exit ?_
    | refine ⟨⟨by omega, by omega⟩, ?_⟩
    | (refine VS.region tabOk (id := 0) [] (by kernel_rfl) ?_; generalize hK : VS _ _ _ = KK; simp [hF]; try subst hK; try (refine VS.keep [0, 1, 2] ?_; generalize hK : VS _ _ _ = KK; simp; try subst hK))
    | (refine VS.region tabOk (id := 1) [] (by kernel_rfl) ?_; generalize hK : VS _ _ _ = KK; simp [hF]; try subst hK; try (refine VS.keep [0, 1, 2, 12] ?_; generalize hK : VS _ _ _ = KK; simp; try subst hK))
    | (refine VS.region tabOk (id := 2) [] (by kernel_rfl) ?_; generalize hK : VS _ _ _ = KK; simp [hF]; try subst hK; try (refine VS.keep [6, 7] ?_; generalize hK : VS _ _ _ = KK; simp; try subst hK))
    | (refine VS.region tabOk (id := 3) [(2, 15)] (by kernel_rfl) ?_; generalize hK : VS _ _ _ = KK; simp [hF]; try subst hK; try (refine VS.keep [0, 1, 2, 19] ?_; generalize hK : VS _ _ _ = KK; simp; try subst hK))
    | (refine VS.region tabOk (id := 4) [] (by kernel_rfl) ?_; generalize hK : VS _ _ _ = KK; simp [hF]; try subst hK; try (refine VS.keep [6, 7] ?_; generalize hK : VS _ _ _ = KK; simp; try subst hK))
    | (refine VS.region tabOk (id := 5) [] (by kernel_rfl) ?_; generalize hK : VS _ _ _ = KK; simp [hF]; try subst hK; try (refine VS.keep [8] ?_; generalize hK : VS _ _ _ = KK; simp; try subst hK))
    | (refine VS.region tabOk (id := 6) [] (by kernel_rfl) ?_; generalize hK : VS _ _ _ = KK; simp [hF]; try subst hK; try (refine VS.keep [8, 26] ?_; generalize hK : VS _ _ _ = KK; simp; try subst hK))
    | (refine VS.region tabOk (id := 7) [] (by kernel_rfl) ?_; generalize hK : VS _ _ _ = KK; simp [hF]; try subst hK; try (refine VS.keep [6, 7] ?_; generalize hK : VS _ _ _ = KK; simp; try subst hK))
    | (refine VS.region tabOk (id := 8) [] (by kernel_rfl) ?_; generalize hK : VS _ _ _ = KK; simp [hF]; try subst hK; try (refine VS.keep [6, 7] ?_; generalize hK : VS _ _ _ = KK; simp; try subst hK))
    | (refine VS.cond ?_; generalize hK1 : VS _ _ _ = KK1; generalize hK2 : VS _ _ _ = KK2; simp [hF]; try subst hK1; try subst hK2)
  refine (shaped_ok S k).call [(0, [])] (by simp) (by simp [hF, dSp]) (by simp [hF, dSp]) (by simp [hF, dSp]) ?_
  rintro av X κ ⟨rfl, rfl, rfl⟩
  generalize hK : VS _ _ _ = KK; simp [hF, dSp]; try subst hK
  repeat first
    | refine VS.seq ?_
    | refine VS.skip ?_
    | refine VS.block ?_
    | refine VS.nil ?_
    | refine blockN_normal ?_
    | refine loopN_normal ?_
    | refine VS.exit ?_
    | refine blockN_hit ?_
    | refine blockN_miss (by decide) ?_
    | refine loopN_exit ?_
    | refine ⟨⟨by omega, by omega⟩, ?_⟩
    | (refine VS.region tabOk (id := 0) [] (by kernel_rfl) ?_; generalize hK : VS _ _ _ = KK; simp [hF]; try subst hK; try (refine VS.keep [0, 1, 2] ?_; generalize hK : VS _ _ _ = KK; simp; try subst hK))
    | (refine VS.region tabOk (id := 1) [] (by kernel_rfl) ?_; generalize hK : VS _ _ _ = KK; simp [hF]; try subst hK; try (refine VS.keep [0, 1, 2, 12] ?_; generalize hK : VS _ _ _ = KK; simp; try subst hK))
    | (refine VS.region tabOk (id := 2) [] (by kernel_rfl) ?_; generalize hK : VS _ _ _ = KK; simp [hF]; try subst hK; try (refine VS.keep [6, 7] ?_; generalize hK : VS _ _ _ = KK; simp; try subst hK))
    | (refine VS.region tabOk (id := 3) [(2, 15)] (by kernel_rfl) ?_; generalize hK : VS _ _ _ = KK; simp [hF]; try subst hK; try (refine VS.keep [0, 1, 2, 19] ?_; generalize hK : VS _ _ _ = KK; simp; try subst hK))
    | (refine VS.region tabOk (id := 4) [] (by kernel_rfl) ?_; generalize hK : VS _ _ _ = KK; simp [hF]; try subst hK; try (refine VS.keep [6, 7] ?_; generalize hK : VS _ _ _ = KK; simp; try subst hK))
    | (refine VS.region tabOk (id := 5) [] (by kernel_rfl) ?_; generalize hK : VS _ _ _ = KK; simp [hF]; try subst hK; try (refine VS.keep [8] ?_; generalize hK : VS _ _ _ = KK; simp; try subst hK))
    | (refine VS.region tabOk (id := 6) [] (by kernel_rfl) ?_; generalize hK : VS _ _ _ = KK; simp [hF]; try subst hK; try (refine VS.keep [8, 26] ?_; generalize hK : VS _ _ _ = KK; simp; try subst hK))
    | (refine VS.region tabOk (id := 7) [] (by kernel_rfl) ?_; generalize hK : VS _ _ _ = KK; simp [hF]; try subst hK; try (refine VS.keep [6, 7] ?_; generalize hK : VS _ _ _ = KK; simp; try subst hK))
    | (refine VS.region tabOk (id := 8) [] (by kernel_rfl) ?_; generalize hK : VS _ _ _ = KK; simp [hF]; try subst hK; try (refine VS.keep [6, 7] ?_; generalize hK : VS _ _ _ = KK; simp; try subst hK))
    | (refine VS.cond ?_; generalize hK1 : VS _ _ _ = KK1; generalize hK2 : VS _ _ _ = KK2; simp [hF]; try subst hK1; try subst hK2)
  refine ⟨fun h => ?_, fun h => ?_⟩
  · repeat first
      | refine VS.seq ?_
      | refine VS.skip ?_
      | refine VS.block ?_
      | refine VS.nil ?_
      | refine blockN_normal ?_
      | refine loopN_normal ?_
      | refine VS.exit ?_
      | refine blockN_hit ?_
      | refine blockN_miss (by decide) ?_
      | refine loopN_exit ?_
      | refine ⟨⟨by omega, by omega⟩, ?_⟩
      | (refine VS.region tabOk (id := 0) [] (by kernel_rfl) ?_; generalize hK : VS _ _ _ = KK; simp [hF]; try subst hK; try (refine VS.keep [0, 1, 2] ?_; generalize hK : VS _ _ _ = KK; simp; try subst hK))
      | (refine VS.region tabOk (id := 1) [] (by kernel_rfl) ?_; generalize hK : VS _ _ _ = KK; simp [hF]; try subst hK; try (refine VS.keep [0, 1, 2, 12] ?_; generalize hK : VS _ _ _ = KK; simp; try subst hK))
      | (refine VS.region tabOk (id := 2) [] (by kernel_rfl) ?_; generalize hK : VS _ _ _ = KK; simp [hF]; try subst hK; try (refine VS.keep [6, 7] ?_; generalize hK : VS _ _ _ = KK; simp; try subst hK))
      | (refine VS.region tabOk (id := 3) [(2, 15)] (by kernel_rfl) ?_; generalize hK : VS _ _ _ = KK; simp [hF]; try subst hK; try (refine VS.keep [0, 1, 2, 19] ?_; generalize hK : VS _ _ _ = KK; simp; try subst hK))
      | (refine VS.region tabOk (id := 4) [] (by kernel_rfl) ?_; generalize hK : VS _ _ _ = KK; simp [hF]; try subst hK; try (refine VS.keep [6, 7] ?_; generalize hK : VS _ _ _ = KK; simp; try subst hK))
      | (refine VS.region tabOk (id := 5) [] (by kernel_rfl) ?_; generalize hK : VS _ _ _ = KK; simp [hF]; try subst hK; try (refine VS.keep [8] ?_; generalize hK : VS _ _ _ = KK; simp; try subst hK))
      | (refine VS.region tabOk (id := 6) [] (by kernel_rfl) ?_; generalize hK : VS _ _ _ = KK; simp [hF]; try subst hK; try (refine VS.keep [8, 26] ?_; generalize hK : VS _ _ _ = KK; simp; try subst hK))
      | (refine VS.region tabOk (id := 7) [] (by kernel_rfl) ?_; generalize hK : VS _ _ _ = KK; simp [hF]; try subst hK; try (refine VS.keep [6, 7] ?_; generalize hK : VS _ _ _ = KK; simp; try subst hK))
      | (refine VS.region tabOk (id := 8) [] (by kernel_rfl) ?_; generalize hK : VS _ _ _ = KK; simp [hF]; try subst hK; try (refine VS.keep [6, 7] ?_; generalize hK : VS _ _ _ = KK; simp; try subst hK))
      | (refine VS.cond ?_; generalize hK1 : VS _ _ _ = KK1; generalize hK2 : VS _ _ _ = KK2; simp [hF]; try subst hK1; try subst hK2)
    try refine VS.ret ?_
    repeat first | refine blockN_ret ?_ | refine loopN_ret ?_
    refine endK.of [6, 7] [0] [] (by simp [hF]) (by simp [covers, mpre]) ?_
    simp [hF, retK, dSp, slotOf, h]
  · obtain ⟨j, rfl, hj⟩ := shapedB_true h
    repeat first
      | refine VS.seq ?_
      | refine VS.skip ?_
      | refine VS.block ?_
      | refine VS.nil ?_
      | refine blockN_normal ?_
      | refine loopN_normal ?_
      | refine VS.exit ?_
      | refine blockN_hit ?_
      | refine blockN_miss (by decide) ?_
      | refine loopN_exit ?_
      | refine ⟨⟨by omega, by omega⟩, ?_⟩
      | (refine VS.region tabOk (id := 0) [] (by kernel_rfl) ?_; generalize hK : VS _ _ _ = KK; simp [hF]; try subst hK; try (refine VS.keep [0, 1, 2] ?_; generalize hK : VS _ _ _ = KK; simp; try subst hK))
      | (refine VS.region tabOk (id := 1) [] (by kernel_rfl) ?_; generalize hK : VS _ _ _ = KK; simp [hF]; try subst hK; try (refine VS.keep [0, 1, 2, 12] ?_; generalize hK : VS _ _ _ = KK; simp; try subst hK))
      | (refine VS.region tabOk (id := 2) [] (by kernel_rfl) ?_; generalize hK : VS _ _ _ = KK; simp [hF]; try subst hK; try (refine VS.keep [6, 7] ?_; generalize hK : VS _ _ _ = KK; simp; try subst hK))
      | (refine VS.region tabOk (id := 3) [(2, 15)] (by kernel_rfl) ?_; generalize hK : VS _ _ _ = KK; simp [hF]; try subst hK; try (refine VS.keep [0, 1, 2, 19] ?_; generalize hK : VS _ _ _ = KK; simp; try subst hK))
      | (refine VS.region tabOk (id := 4) [] (by kernel_rfl) ?_; generalize hK : VS _ _ _ = KK; simp [hF]; try subst hK; try (refine VS.keep [6, 7] ?_; generalize hK : VS _ _ _ = KK; simp; try subst hK))
      | (refine VS.region tabOk (id := 5) [] (by kernel_rfl) ?_; generalize hK : VS _ _ _ = KK; simp [hF]; try subst hK; try (refine VS.keep [8] ?_; generalize hK : VS _ _ _ = KK; simp; try subst hK))
      | (refine VS.region tabOk (id := 6) [] (by kernel_rfl) ?_; generalize hK : VS _ _ _ = KK; simp [hF]; try subst hK; try (refine VS.keep [8, 26] ?_; generalize hK : VS _ _ _ = KK; simp; try subst hK))
      | (refine VS.region tabOk (id := 7) [] (by kernel_rfl) ?_; generalize hK : VS _ _ _ = KK; simp [hF]; try subst hK; try (refine VS.keep [6, 7] ?_; generalize hK : VS _ _ _ = KK; simp; try subst hK))
      | (refine VS.region tabOk (id := 8) [] (by kernel_rfl) ?_; generalize hK : VS _ _ _ = KK; simp [hF]; try subst hK; try (refine VS.keep [6, 7] ?_; generalize hK : VS _ _ _ = KK; simp; try subst hK))
      | (refine VS.cond ?_; generalize hK1 : VS _ _ _ = KK1; generalize hK2 : VS _ _ _ = KK2; simp [hF]; try subst hK1; try subst hK2)
    refine ⟨fun hn => ?_, fun hn => ?_⟩
    · repeat first
        | refine VS.seq ?_
        | refine VS.skip ?_
        | refine VS.block ?_
        | refine VS.nil ?_
        | refine blockN_normal ?_
        | refine loopN_normal ?_
        | refine VS.exit ?_
        | refine blockN_hit ?_
        | refine blockN_miss (by decide) ?_
        | refine loopN_exit ?_
        | refine ⟨⟨by omega, by omega⟩, ?_⟩
        | (refine VS.region tabOk (id := 0) [] (by kernel_rfl) ?_; generalize hK : VS _ _ _ = KK; simp [hF]; try subst hK; try (refine VS.keep [0, 1, 2] ?_; generalize hK : VS _ _ _ = KK; simp; try subst hK))
        | (refine VS.region tabOk (id := 1) [] (by kernel_rfl) ?_; generalize hK : VS _ _ _ = KK; simp [hF]; try subst hK; try (refine VS.keep [0, 1, 2, 12] ?_; generalize hK : VS _ _ _ = KK; simp; try subst hK))
        | (refine VS.region tabOk (id := 2) [] (by kernel_rfl) ?_; generalize hK : VS _ _ _ = KK; simp [hF]; try subst hK; try (refine VS.keep [6, 7] ?_; generalize hK : VS _ _ _ = KK; simp; try subst hK))
        | (refine VS.region tabOk (id := 3) [(2, 15)] (by kernel_rfl) ?_; generalize hK : VS _ _ _ = KK; simp [hF]; try subst hK; try (refine VS.keep [0, 1, 2, 19] ?_; generalize hK : VS _ _ _ = KK; simp; try subst hK))
        | (refine VS.region tabOk (id := 4) [] (by kernel_rfl) ?_; generalize hK : VS _ _ _ = KK; simp [hF]; try subst hK; try (refine VS.keep [6, 7] ?_; generalize hK : VS _ _ _ = KK; simp; try subst hK))
        | (refine VS.region tabOk (id := 5) [] (by kernel_rfl) ?_; generalize hK : VS _ _ _ = KK; simp [hF]; try subst hK; try (refine VS.keep [8] ?_; generalize hK : VS _ _ _ = KK; simp; try subst hK))
        | (refine VS.region tabOk (id := 6) [] (by kernel_rfl) ?_; generalize hK : VS _ _ _ = KK; simp [hF]; try subst hK; try (refine VS.keep [8, 26] ?_; generalize hK : VS _ _ _ = KK; simp; try subst hK))
        | (refine VS.region tabOk (id := 7) [] (by kernel_rfl) ?_; generalize hK : VS _ _ _ = KK; simp [hF]; try subst hK; try (refine VS.keep [6, 7] ?_; generalize hK : VS _ _ _ = KK; simp; try subst hK))
        | (refine VS.region tabOk (id := 8) [] (by kernel_rfl) ?_; generalize hK : VS _ _ _ = KK; simp [hF]; try subst hK; try (refine VS.keep [6, 7] ?_; generalize hK : VS _ _ _ = KK; simp; try subst hK))
        | (refine VS.cond ?_; generalize hK1 : VS _ _ _ = KK1; generalize hK2 : VS _ _ _ = KK2; simp [hF]; try subst hK1; try subst hK2)
      try refine VS.ret ?_
      repeat first | refine blockN_ret ?_ | refine loopN_ret ?_
      refine endK.of [6, 7] [0] [] (by simp [hF]) (by simp [covers, mpre]) ?_
      simp [hF, retK, dSp, slotOf, h, hn]
    · repeat first
        | refine VS.seq ?_
        | refine VS.skip ?_
        | refine VS.block ?_
        | refine VS.nil ?_
        | refine blockN_normal ?_
        | refine loopN_normal ?_
        | refine VS.exit ?_
        | refine blockN_hit ?_
        | refine blockN_miss (by decide) ?_
        | refine loopN_exit ?_
        | refine ⟨⟨by omega, by omega⟩, ?_⟩
        | (refine VS.region tabOk (id := 0) [] (by kernel_rfl) ?_; generalize hK : VS _ _ _ = KK; simp [hF]; try subst hK; try (refine VS.keep [0, 1, 2] ?_; generalize hK : VS _ _ _ = KK; simp; try subst hK))
        | (refine VS.region tabOk (id := 1) [] (by kernel_rfl) ?_; generalize hK : VS _ _ _ = KK; simp [hF]; try subst hK; try (refine VS.keep [0, 1, 2, 12] ?_; generalize hK : VS _ _ _ = KK; simp; try subst hK))
        | (refine VS.region tabOk (id := 2) [] (by kernel_rfl) ?_; generalize hK : VS _ _ _ = KK; simp [hF]; try subst hK; try (refine VS.keep [6, 7] ?_; generalize hK : VS _ _ _ = KK; simp; try subst hK))
        | (refine VS.region tabOk (id := 3) [(2, 15)] (by kernel_rfl) ?_; generalize hK : VS _ _ _ = KK; simp [hF]; try subst hK; try (refine VS.keep [0, 1, 2, 19] ?_; generalize hK : VS _ _ _ = KK; simp; try subst hK))
        | (refine VS.region tabOk (id := 4) [] (by kernel_rfl) ?_; generalize hK : VS _ _ _ = KK; simp [hF]; try subst hK; try (refine VS.keep [6, 7] ?_; generalize hK : VS _ _ _ = KK; simp; try subst hK))
        | (refine VS.region tabOk (id := 5) [] (by kernel_rfl) ?_; generalize hK : VS _ _ _ = KK; simp [hF]; try subst hK; try (refine VS.keep [8] ?_; generalize hK : VS _ _ _ = KK; simp; try subst hK))
        | (refine VS.region tabOk (id := 6) [] (by kernel_rfl) ?_; generalize hK : VS _ _ _ = KK; simp [hF]; try subst hK; try (refine VS.keep [8, 26] ?_; generalize hK : VS _ _ _ = KK; simp; try subst hK))
        | (refine VS.region tabOk (id := 7) [] (by kernel_rfl) ?_; generalize hK : VS _ _ _ = KK; simp [hF]; try subst hK; try (refine VS.keep [6, 7] ?_; generalize hK : VS _ _ _ = KK; simp; try subst hK))
        | (refine VS.region tabOk (id := 8) [] (by kernel_rfl) ?_; generalize hK : VS _ _ _ = KK; simp [hF]; try subst hK; try (refine VS.keep [6, 7] ?_; generalize hK : VS _ _ _ = KK; simp; try subst hK))
        | (refine VS.cond ?_; generalize hK1 : VS _ _ _ = KK1; generalize hK2 : VS _ _ _ = KK2; simp [hF]; try subst hK1; try subst hK2)
      refine ⟨fun hz => ?_, fun hz => ?_⟩
      · have hz' : 40 < n.size := by omega
        repeat first
          | refine VS.seq ?_
          | refine VS.skip ?_
          | refine VS.block ?_
          | refine VS.nil ?_
          | refine blockN_normal ?_
          | refine loopN_normal ?_
          | refine VS.exit ?_
          | refine blockN_hit ?_
          | refine blockN_miss (by decide) ?_
          | refine loopN_exit ?_
          | refine ⟨⟨by omega, by omega⟩, ?_⟩
          | (refine VS.region tabOk (id := 0) [] (by kernel_rfl) ?_; generalize hK : VS _ _ _ = KK; simp [hF]; try subst hK; try (refine VS.keep [0, 1, 2] ?_; generalize hK : VS _ _ _ = KK; simp; try subst hK))
          | (refine VS.region tabOk (id := 1) [] (by kernel_rfl) ?_; generalize hK : VS _ _ _ = KK; simp [hF]; try subst hK; try (refine VS.keep [0, 1, 2, 12] ?_; generalize hK : VS _ _ _ = KK; simp; try subst hK))
          | (refine VS.region tabOk (id := 2) [] (by kernel_rfl) ?_; generalize hK : VS _ _ _ = KK; simp [hF]; try subst hK; try (refine VS.keep [6, 7] ?_; generalize hK : VS _ _ _ = KK; simp; try subst hK))
          | (refine VS.region tabOk (id := 3) [(2, 15)] (by kernel_rfl) ?_; generalize hK : VS _ _ _ = KK; simp [hF]; try subst hK; try (refine VS.keep [0, 1, 2, 19] ?_; generalize hK : VS _ _ _ = KK; simp; try subst hK))
          | (refine VS.region tabOk (id := 4) [] (by kernel_rfl) ?_; generalize hK : VS _ _ _ = KK; simp [hF]; try subst hK; try (refine VS.keep [6, 7] ?_; generalize hK : VS _ _ _ = KK; simp; try subst hK))
          | (refine VS.region tabOk (id := 5) [] (by kernel_rfl) ?_; generalize hK : VS _ _ _ = KK; simp [hF]; try subst hK; try (refine VS.keep [8] ?_; generalize hK : VS _ _ _ = KK; simp; try subst hK))
          | (refine VS.region tabOk (id := 6) [] (by kernel_rfl) ?_; generalize hK : VS _ _ _ = KK; simp [hF]; try subst hK; try (refine VS.keep [8, 26] ?_; generalize hK : VS _ _ _ = KK; simp; try subst hK))
          | (refine VS.region tabOk (id := 7) [] (by kernel_rfl) ?_; generalize hK : VS _ _ _ = KK; simp [hF]; try subst hK; try (refine VS.keep [6, 7] ?_; generalize hK : VS _ _ _ = KK; simp; try subst hK))
          | (refine VS.region tabOk (id := 8) [] (by kernel_rfl) ?_; generalize hK : VS _ _ _ = KK; simp [hF]; try subst hK; try (refine VS.keep [6, 7] ?_; generalize hK : VS _ _ _ = KK; simp; try subst hK))
          | (refine VS.cond ?_; generalize hK1 : VS _ _ _ = KK1; generalize hK2 : VS _ _ _ = KK2; simp [hF]; try subst hK1; try subst hK2)
        try refine VS.ret ?_
        repeat first | refine blockN_ret ?_ | refine loopN_ret ?_
        refine endK.of [6, 7] [0] [] (by simp [hF]) (by simp [covers, mpre]) ?_
        simp [hF, retK, dSp, slotOf, h, hz']
      · have hz' : ¬ 40 < n.size := by omega
        have hd := hS.deep j hj
        repeat first
          | refine VS.seq ?_
          | refine VS.skip ?_
          | refine VS.block ?_
          | refine VS.nil ?_
          | refine blockN_normal ?_
          | refine loopN_normal ?_
          | refine VS.exit ?_
          | refine blockN_hit ?_
          | refine blockN_miss (by decide) ?_
          | refine loopN_exit ?_
          | refine ⟨⟨by omega, by omega⟩, ?_⟩
          | (refine VS.region tabOk (id := 0) [] (by kernel_rfl) ?_; generalize hK : VS _ _ _ = KK; simp [hF]; try subst hK; try (refine VS.keep [0, 1, 2] ?_; generalize hK : VS _ _ _ = KK; simp; try subst hK))
          | (refine VS.region tabOk (id := 1) [] (by kernel_rfl) ?_; generalize hK : VS _ _ _ = KK; simp [hF]; try subst hK; try (refine VS.keep [0, 1, 2, 12] ?_; generalize hK : VS _ _ _ = KK; simp; try subst hK))
          | (refine VS.region tabOk (id := 2) [] (by kernel_rfl) ?_; generalize hK : VS _ _ _ = KK; simp [hF]; try subst hK; try (refine VS.keep [6, 7] ?_; generalize hK : VS _ _ _ = KK; simp; try subst hK))
          | (refine VS.region tabOk (id := 3) [(2, 15)] (by kernel_rfl) ?_; generalize hK : VS _ _ _ = KK; simp [hF]; try subst hK; try (refine VS.keep [0, 1, 2, 19] ?_; generalize hK : VS _ _ _ = KK; simp; try subst hK))
          | (refine VS.region tabOk (id := 4) [] (by kernel_rfl) ?_; generalize hK : VS _ _ _ = KK; simp [hF]; try subst hK; try (refine VS.keep [6, 7] ?_; generalize hK : VS _ _ _ = KK; simp; try subst hK))
          | (refine VS.region tabOk (id := 5) [] (by kernel_rfl) ?_; generalize hK : VS _ _ _ = KK; simp [hF]; try subst hK; try (refine VS.keep [8] ?_; generalize hK : VS _ _ _ = KK; simp; try subst hK))
          | (refine VS.region tabOk (id := 6) [] (by kernel_rfl) ?_; generalize hK : VS _ _ _ = KK; simp [hF]; try subst hK; try (refine VS.keep [8, 26] ?_; generalize hK : VS _ _ _ = KK; simp; try subst hK))
          | (refine VS.region tabOk (id := 7) [] (by kernel_rfl) ?_; generalize hK : VS _ _ _ = KK; simp [hF]; try subst hK; try (refine VS.keep [6, 7] ?_; generalize hK : VS _ _ _ = KK; simp; try subst hK))
          | (refine VS.region tabOk (id := 8) [] (by kernel_rfl) ?_; generalize hK : VS _ _ _ = KK; simp [hF]; try subst hK; try (refine VS.keep [6, 7] ?_; generalize hK : VS _ _ _ = KK; simp; try subst hK))
          | (refine VS.cond ?_; generalize hK1 : VS _ _ _ = KK1; generalize hK2 : VS _ _ _ = KK2; simp [hF]; try subst hK1; try subst hK2)
        refine (named_ok S hS j hj).call [(0, [])] (by simp) (by simp [hF, dSp]) (by simp [hF, dSp]) (by simp [hF, dSp]) ?_
        rintro av X κ ⟨rfl, rfl, rfl⟩
        generalize hK : VS _ _ _ = KK; simp [hF, dSp]; try subst hK
        repeat first
          | refine VS.seq ?_
          | refine VS.skip ?_
          | refine VS.block ?_
          | refine VS.nil ?_
          | refine blockN_normal ?_
          | refine loopN_normal ?_
          | refine VS.exit ?_
          | refine blockN_hit ?_
          | refine blockN_miss (by decide) ?_
          | refine loopN_exit ?_
          | refine ⟨⟨by omega, by omega⟩, ?_⟩
          | (refine VS.region tabOk (id := 0) [] (by kernel_rfl) ?_; generalize hK : VS _ _ _ = KK; simp [hF]; try subst hK; try (refine VS.keep [0, 1, 2] ?_; generalize hK : VS _ _ _ = KK; simp; try subst hK))
          | (refine VS.region tabOk (id := 1) [] (by kernel_rfl) ?_; generalize hK : VS _ _ _ = KK; simp [hF]; try subst hK; try (refine VS.keep [0, 1, 2, 12] ?_; generalize hK : VS _ _ _ = KK; simp; try subst hK))
          | (refine VS.region tabOk (id := 2) [] (by kernel_rfl) ?_; generalize hK : VS _ _ _ = KK; simp [hF]; try subst hK; try (refine VS.keep [6, 7] ?_; generalize hK : VS _ _ _ = KK; simp; try subst hK))
          | (refine VS.region tabOk (id := 3) [(2, 15)] (by kernel_rfl) ?_; generalize hK : VS _ _ _ = KK; simp [hF]; try subst hK; try (refine VS.keep [0, 1, 2, 19] ?_; generalize hK : VS _ _ _ = KK; simp; try subst hK))
          | (refine VS.region tabOk (id := 4) [] (by kernel_rfl) ?_; generalize hK : VS _ _ _ = KK; simp [hF]; try subst hK; try (refine VS.keep [6, 7] ?_; generalize hK : VS _ _ _ = KK; simp; try subst hK))
          | (refine VS.region tabOk (id := 5) [] (by kernel_rfl) ?_; generalize hK : VS _ _ _ = KK; simp [hF]; try subst hK; try (refine VS.keep [8] ?_; generalize hK : VS _ _ _ = KK; simp; try subst hK))
          | (refine VS.region tabOk (id := 6) [] (by kernel_rfl) ?_; generalize hK : VS _ _ _ = KK; simp [hF]; try subst hK; try (refine VS.keep [8, 26] ?_; generalize hK : VS _ _ _ = KK; simp; try subst hK))
          | (refine VS.region tabOk (id := 7) [] (by kernel_rfl) ?_; generalize hK : VS _ _ _ = KK; simp [hF]; try subst hK; try (refine VS.keep [6, 7] ?_; generalize hK : VS _ _ _ = KK; simp; try subst hK))
          | (refine VS.region tabOk (id := 8) [] (by kernel_rfl) ?_; generalize hK : VS _ _ _ = KK; simp [hF]; try subst hK; try (refine VS.keep [6, 7] ?_; generalize hK : VS _ _ _ = KK; simp; try subst hK))
          | (refine VS.cond ?_; generalize hK1 : VS _ _ _ = KK1; generalize hK2 : VS _ _ _ = KK2; simp [hF]; try subst hK1; try subst hK2)
        refine (index_ok true false S.shapes[j].names n (by omega)).call [(1, [])] (by simp) (by simp [hF, dSp]) (by simp [hF, dSp]) (by simp [hF, dSp]) ?_
        rintro av X κ ⟨rfl, rfl, rfl⟩
        generalize hK : VS _ _ _ = KK; simp [hF, dSp]; try subst hK
        repeat first
          | refine VS.seq ?_
          | refine VS.skip ?_
          | refine VS.block ?_
          | refine VS.nil ?_
          | refine blockN_normal ?_
          | refine loopN_normal ?_
          | refine VS.exit ?_
          | refine blockN_hit ?_
          | refine blockN_miss (by decide) ?_
          | refine loopN_exit ?_
          | refine ⟨⟨by omega, by omega⟩, ?_⟩
          | (refine VS.region tabOk (id := 0) [] (by kernel_rfl) ?_; generalize hK : VS _ _ _ = KK; simp [hF]; try subst hK; try (refine VS.keep [0, 1, 2] ?_; generalize hK : VS _ _ _ = KK; simp; try subst hK))
          | (refine VS.region tabOk (id := 1) [] (by kernel_rfl) ?_; generalize hK : VS _ _ _ = KK; simp [hF]; try subst hK; try (refine VS.keep [0, 1, 2, 12] ?_; generalize hK : VS _ _ _ = KK; simp; try subst hK))
          | (refine VS.region tabOk (id := 2) [] (by kernel_rfl) ?_; generalize hK : VS _ _ _ = KK; simp [hF]; try subst hK; try (refine VS.keep [6, 7] ?_; generalize hK : VS _ _ _ = KK; simp; try subst hK))
          | (refine VS.region tabOk (id := 3) [(2, 15)] (by kernel_rfl) ?_; generalize hK : VS _ _ _ = KK; simp [hF]; try subst hK; try (refine VS.keep [0, 1, 2, 19] ?_; generalize hK : VS _ _ _ = KK; simp; try subst hK))
          | (refine VS.region tabOk (id := 4) [] (by kernel_rfl) ?_; generalize hK : VS _ _ _ = KK; simp [hF]; try subst hK; try (refine VS.keep [6, 7] ?_; generalize hK : VS _ _ _ = KK; simp; try subst hK))
          | (refine VS.region tabOk (id := 5) [] (by kernel_rfl) ?_; generalize hK : VS _ _ _ = KK; simp [hF]; try subst hK; try (refine VS.keep [8] ?_; generalize hK : VS _ _ _ = KK; simp; try subst hK))
          | (refine VS.region tabOk (id := 6) [] (by kernel_rfl) ?_; generalize hK : VS _ _ _ = KK; simp [hF]; try subst hK; try (refine VS.keep [8, 26] ?_; generalize hK : VS _ _ _ = KK; simp; try subst hK))
          | (refine VS.region tabOk (id := 7) [] (by kernel_rfl) ?_; generalize hK : VS _ _ _ = KK; simp [hF]; try subst hK; try (refine VS.keep [6, 7] ?_; generalize hK : VS _ _ _ = KK; simp; try subst hK))
          | (refine VS.region tabOk (id := 8) [] (by kernel_rfl) ?_; generalize hK : VS _ _ _ = KK; simp [hF]; try subst hK; try (refine VS.keep [6, 7] ?_; generalize hK : VS _ _ _ = KK; simp; try subst hK))
          | (refine VS.cond ?_; generalize hK1 : VS _ _ _ = KK1; generalize hK2 : VS _ _ _ = KK2; simp [hF]; try subst hK1; try subst hK2)
        refine ⟨fun hp => ?_, fun hp => ?_⟩
        · repeat first
            | refine VS.seq ?_
            | refine VS.skip ?_
            | refine VS.block ?_
            | refine VS.nil ?_
            | refine blockN_normal ?_
            | refine loopN_normal ?_
            | refine VS.exit ?_
            | refine blockN_hit ?_
            | refine blockN_miss (by decide) ?_
            | refine loopN_exit ?_
            | refine ⟨⟨by omega, by omega⟩, ?_⟩
            | (refine VS.region tabOk (id := 0) [] (by kernel_rfl) ?_; generalize hK : VS _ _ _ = KK; simp [hF]; try subst hK; try (refine VS.keep [0, 1, 2] ?_; generalize hK : VS _ _ _ = KK; simp; try subst hK))
            | (refine VS.region tabOk (id := 1) [] (by kernel_rfl) ?_; generalize hK : VS _ _ _ = KK; simp [hF]; try subst hK; try (refine VS.keep [0, 1, 2, 12] ?_; generalize hK : VS _ _ _ = KK; simp; try subst hK))
            | (refine VS.region tabOk (id := 2) [] (by kernel_rfl) ?_; generalize hK : VS _ _ _ = KK; simp [hF]; try subst hK; try (refine VS.keep [6, 7] ?_; generalize hK : VS _ _ _ = KK; simp; try subst hK))
            | (refine VS.region tabOk (id := 3) [(2, 15)] (by kernel_rfl) ?_; generalize hK : VS _ _ _ = KK; simp [hF]; try subst hK; try (refine VS.keep [0, 1, 2, 19] ?_; generalize hK : VS _ _ _ = KK; simp; try subst hK))
            | (refine VS.region tabOk (id := 4) [] (by kernel_rfl) ?_; generalize hK : VS _ _ _ = KK; simp [hF]; try subst hK; try (refine VS.keep [6, 7] ?_; generalize hK : VS _ _ _ = KK; simp; try subst hK))
            | (refine VS.region tabOk (id := 5) [] (by kernel_rfl) ?_; generalize hK : VS _ _ _ = KK; simp [hF]; try subst hK; try (refine VS.keep [8] ?_; generalize hK : VS _ _ _ = KK; simp; try subst hK))
            | (refine VS.region tabOk (id := 6) [] (by kernel_rfl) ?_; generalize hK : VS _ _ _ = KK; simp [hF]; try subst hK; try (refine VS.keep [8, 26] ?_; generalize hK : VS _ _ _ = KK; simp; try subst hK))
            | (refine VS.region tabOk (id := 7) [] (by kernel_rfl) ?_; generalize hK : VS _ _ _ = KK; simp [hF]; try subst hK; try (refine VS.keep [6, 7] ?_; generalize hK : VS _ _ _ = KK; simp; try subst hK))
            | (refine VS.region tabOk (id := 8) [] (by kernel_rfl) ?_; generalize hK : VS _ _ _ = KK; simp [hF]; try subst hK; try (refine VS.keep [6, 7] ?_; generalize hK : VS _ _ _ = KK; simp; try subst hK))
            | (refine VS.cond ?_; generalize hK1 : VS _ _ _ = KK1; generalize hK2 : VS _ _ _ = KK2; simp [hF]; try subst hK1; try subst hK2)
          try refine VS.ret ?_
          repeat first | refine blockN_ret ?_ | refine loopN_ret ?_
          refine endK.of [6, 7] [0] [] (by simp [hF]) (by simp [covers, mpre]) ?_
          simp [hF, retK, dSp, slotOf, h, hn, hz', hj, hp]
        · have hp' : ¬ posIn n S.shapes[j].names < 0 := by omega
          repeat first
            | refine VS.seq ?_
            | refine VS.skip ?_
            | refine VS.block ?_
            | refine VS.nil ?_
            | refine blockN_normal ?_
            | refine loopN_normal ?_
            | refine VS.exit ?_
            | refine blockN_hit ?_
            | refine blockN_miss (by decide) ?_
            | refine loopN_exit ?_
            | refine ⟨⟨by omega, by omega⟩, ?_⟩
            | (refine VS.region tabOk (id := 0) [] (by kernel_rfl) ?_; generalize hK : VS _ _ _ = KK; simp [hF]; try subst hK; try (refine VS.keep [0, 1, 2] ?_; generalize hK : VS _ _ _ = KK; simp; try subst hK))
            | (refine VS.region tabOk (id := 1) [] (by kernel_rfl) ?_; generalize hK : VS _ _ _ = KK; simp [hF]; try subst hK; try (refine VS.keep [0, 1, 2, 12] ?_; generalize hK : VS _ _ _ = KK; simp; try subst hK))
            | (refine VS.region tabOk (id := 2) [] (by kernel_rfl) ?_; generalize hK : VS _ _ _ = KK; simp [hF]; try subst hK; try (refine VS.keep [6, 7] ?_; generalize hK : VS _ _ _ = KK; simp; try subst hK))
            | (refine VS.region tabOk (id := 3) [(2, 15)] (by kernel_rfl) ?_; generalize hK : VS _ _ _ = KK; simp [hF]; try subst hK; try (refine VS.keep [0, 1, 2, 19] ?_; generalize hK : VS _ _ _ = KK; simp; try subst hK))
            | (refine VS.region tabOk (id := 4) [] (by kernel_rfl) ?_; generalize hK : VS _ _ _ = KK; simp [hF]; try subst hK; try (refine VS.keep [6, 7] ?_; generalize hK : VS _ _ _ = KK; simp; try subst hK))
            | (refine VS.region tabOk (id := 5) [] (by kernel_rfl) ?_; generalize hK : VS _ _ _ = KK; simp [hF]; try subst hK; try (refine VS.keep [8] ?_; generalize hK : VS _ _ _ = KK; simp; try subst hK))
            | (refine VS.region tabOk (id := 6) [] (by kernel_rfl) ?_; generalize hK : VS _ _ _ = KK; simp [hF]; try subst hK; try (refine VS.keep [8, 26] ?_; generalize hK : VS _ _ _ = KK; simp; try subst hK))
            | (refine VS.region tabOk (id := 7) [] (by kernel_rfl) ?_; generalize hK : VS _ _ _ = KK; simp [hF]; try subst hK; try (refine VS.keep [6, 7] ?_; generalize hK : VS _ _ _ = KK; simp; try subst hK))
            | (refine VS.region tabOk (id := 8) [] (by kernel_rfl) ?_; generalize hK : VS _ _ _ = KK; simp [hF]; try subst hK; try (refine VS.keep [6, 7] ?_; generalize hK : VS _ _ _ = KK; simp; try subst hK))
            | (refine VS.cond ?_; generalize hK1 : VS _ _ _ = KK1; generalize hK2 : VS _ _ _ = KK2; simp [hF]; try subst hK1; try subst hK2)
          try refine VS.ret ?_
          repeat first | refine blockN_ret ?_ | refine loopN_ret ?_
          refine endK.of [6, 7] [0] [] (by simp [hF]) (by simp [covers, mpre]) ?_
          simp [hF, retK, dSp, slotOf, h, hn, hz', hj, hp']

/- (*cabochon/shape.Space).Set -/
theorem set_ok (S : Sp) {N : Nat} (hS : WF S N) (hN : N < 1000000) (o : Int) (n : ByteArray) (w : Int) : Meets Try.prog 17 [dSp S] (.cons (.ptr 0 [.d]) (.cons (avInt o) (.cons (.val (.string n)) (.cons (avInt w) .nil))))
    fun av X κ => av = avInt (setOf S o n w).2 ∧ X = [dSp (setOf S o n w).1] ∧ κ = [(0, [.d])] := by
  refine Meets.of_vs tabOk Try.func17 (body := ?_) ?_ (by kernel_rfl) Try.ntmps17 (rs := [.tmp 8]) (by kernel_rfl) rfl (by simp [AV.len]) (by simp only [envOf]; exact rfl) ?_
  rotate_left
  · rfl
  intro w0 I0 F0 hF
  repeat first
    | refine VS.seq ?_
    | refine VS.skip ?_
    | refine VS.block ?_
    | refine VS.nil ?_
    | refine blockN_normal ?_
    | refine loopN_normal ?_
    | refine VS.exit ?_
    | refine blockN_hit ?_
    | refine blockN_miss (by decide) ?_
    | refine loopN_exit ?_
    | refine ⟨⟨by omega, by omega⟩, ?_⟩
    | (refine VS.region tabOk (id := 0) [] (by kernel_rfl) ?_; generalize hK : VS _ _ _ = KK; simp [hF]; try subst hK; try (refine VS.keep [0, 1, 2, 3] ?_; generalize hK : VS _ _ _ = KK; simp; try subst hK))
    | (refine VS.region tabOk (id := 1) [] (by kernel_rfl) ?_; generalize hK : VS _ _ _ = KK; simp [hF]; try subst hK; try (refine VS.keep [0, 1, 2, 3, 9] ?_; generalize hK : VS _ _ _ = KK; simp; try subst hK))
    | (refine VS.region tabOk (id := 2) [] (by kernel_rfl) ?_; generalize hK : VS _ _ _ = KK; simp [hF]; try subst hK; try (refine VS.keep [0, 1, 2, 3, 9, 17] ?_; generalize hK : VS _ _ _ = KK; simp; try subst hK))
    | (refine VS.region tabOk (id := 3) [] (by kernel_rfl) ?_; generalize hK : VS _ _ _ = KK; simp [hF]; try subst hK; try (refine VS.keep [8] ?_; generalize hK : VS _ _ _ = KK; simp; try subst hK))
    | (refine VS.region tabOk (id := 4) [] (by kernel_rfl) ?_; generalize hK : VS _ _ _ = KK; simp [hF]; try subst hK; try (refine VS.keep [0, 2, 3, 10] ?_; generalize hK : VS _ _ _ = KK; simp; try subst hK))
    | (refine VS.region tabOk (id := 5) [] (by kernel_rfl) ?_; generalize hK : VS _ _ _ = KK; simp [hF]; try subst hK; try (refine VS.keep [0, 2, 3, 10, 11] ?_; generalize hK : VS _ _ _ = KK; simp; try subst hK))
    | (refine VS.region tabOk (id := 6) [] (by kernel_rfl) ?_; generalize hK : VS _ _ _ = KK; simp [hF]; try subst hK; try (refine VS.keep [0, 2, 3, 10, 11, 33] ?_; generalize hK : VS _ _ _ = KK; simp; try subst hK))
    | (refine VS.region tabOk (id := 7) [] (by kernel_rfl) ?_; generalize hK : VS _ _ _ = KK; simp [hF]; try subst hK; try (refine VS.keep [] ?_; generalize hK : VS _ _ _ = KK; simp; try subst hK))
    | (refine VS.region tabOk (id := 8) [] (by kernel_rfl) ?_; generalize hK : VS _ _ _ = KK; simp [hF]; try subst hK; try (refine VS.keep [8] ?_; generalize hK : VS _ _ _ = KK; simp; try subst hK))
    | (refine VS.region tabOk (id := 9) [] (by kernel_rfl) ?_; generalize hK : VS _ _ _ = KK; simp [hF]; try subst hK; try (refine VS.keep [] ?_; generalize hK : VS _ _ _ = KK; simp; try subst hK))
    | (refine VS.region tabOk (id := 10) [] (by kernel_rfl) ?_; generalize hK : VS _ _ _ = KK; simp [hF]; try subst hK; try (refine VS.keep [8] ?_; generalize hK : VS _ _ _ = KK; simp; try subst hK))
    | (refine VS.cond ?_; generalize hK1 : VS _ _ _ = KK1; generalize hK2 : VS _ _ _ = KK2; simp [hF]; try subst hK1; try subst hK2)
  refine (ask_ok S o n true).call [(0, [])] (by simp) (by simp [hF, dSp]) (by simp [hF, dSp]) (by simp [hF, dSp]) ?_
  rintro av X κ ⟨rfl, rfl, rfl⟩
  generalize hK : VS _ _ _ = KK; simp [hF, dSp]; try subst hK
  rcases askOf_cases S o n true with he | ⟨he, j, rfl, hj⟩
  · repeat first
      | refine VS.seq ?_
      | refine VS.skip ?_
      | refine VS.block ?_
      | refine VS.nil ?_
      | refine blockN_normal ?_
      | refine loopN_normal ?_
      | refine VS.exit ?_
      | refine blockN_hit ?_
      | refine blockN_miss (by decide) ?_
      | refine loopN_exit ?_
      | refine ⟨⟨by omega, by omega⟩, ?_⟩
      | (refine VS.region tabOk (id := 0) [] (by kernel_rfl) ?_; generalize hK : VS _ _ _ = KK; simp [hF, he]; try subst hK; try (refine VS.keep [0, 1, 2, 3] ?_; generalize hK : VS _ _ _ = KK; simp; try subst hK))
      | (refine VS.region tabOk (id := 1) [] (by kernel_rfl) ?_; generalize hK : VS _ _ _ = KK; simp [hF, he]; try subst hK; try (refine VS.keep [0, 1, 2, 3, 9] ?_; generalize hK : VS _ _ _ = KK; simp; try subst hK))
      | (refine VS.region tabOk (id := 2) [] (by kernel_rfl) ?_; generalize hK : VS _ _ _ = KK; simp [hF, he]; try subst hK; try (refine VS.keep [0, 1, 2, 3, 9, 17] ?_; generalize hK : VS _ _ _ = KK; simp; try subst hK))
      | (refine VS.region tabOk (id := 3) [] (by kernel_rfl) ?_; generalize hK : VS _ _ _ = KK; simp [hF, he]; try subst hK; try (refine VS.keep [8] ?_; generalize hK : VS _ _ _ = KK; simp; try subst hK))
      | (refine VS.region tabOk (id := 4) [] (by kernel_rfl) ?_; generalize hK : VS _ _ _ = KK; simp [hF, he]; try subst hK; try (refine VS.keep [0, 2, 3, 10] ?_; generalize hK : VS _ _ _ = KK; simp; try subst hK))
      | (refine VS.region tabOk (id := 5) [] (by kernel_rfl) ?_; generalize hK : VS _ _ _ = KK; simp [hF, he]; try subst hK; try (refine VS.keep [0, 2, 3, 10, 11] ?_; generalize hK : VS _ _ _ = KK; simp; try subst hK))
      | (refine VS.region tabOk (id := 6) [] (by kernel_rfl) ?_; generalize hK : VS _ _ _ = KK; simp [hF, he]; try subst hK; try (refine VS.keep [0, 2, 3, 10, 11, 33] ?_; generalize hK : VS _ _ _ = KK; simp; try subst hK))
      | (refine VS.region tabOk (id := 7) [] (by kernel_rfl) ?_; generalize hK : VS _ _ _ = KK; simp [hF, he]; try subst hK; try (refine VS.keep [] ?_; generalize hK : VS _ _ _ = KK; simp; try subst hK))
      | (refine VS.region tabOk (id := 8) [] (by kernel_rfl) ?_; generalize hK : VS _ _ _ = KK; simp [hF, he]; try subst hK; try (refine VS.keep [8] ?_; generalize hK : VS _ _ _ = KK; simp; try subst hK))
      | (refine VS.region tabOk (id := 9) [] (by kernel_rfl) ?_; generalize hK : VS _ _ _ = KK; simp [hF, he]; try subst hK; try (refine VS.keep [] ?_; generalize hK : VS _ _ _ = KK; simp; try subst hK))
      | (refine VS.region tabOk (id := 10) [] (by kernel_rfl) ?_; generalize hK : VS _ _ _ = KK; simp [hF, he]; try subst hK; try (refine VS.keep [8] ?_; generalize hK : VS _ _ _ = KK; simp; try subst hK))
      | (refine VS.cond ?_; generalize hK1 : VS _ _ _ = KK1; generalize hK2 : VS _ _ _ = KK2; simp [hF, he]; try subst hK1; try subst hK2)
    try refine VS.ret ?_
    repeat first | refine blockN_ret ?_ | refine loopN_ret ?_
    refine endK.of [8] [0] [(0, [.d])] (by simp [hF]) (by simp [covers, mpre]) ?_
    simp [hF, retK, dSp, setOf, he]
  · repeat first
      | refine VS.seq ?_
      | refine VS.skip ?_
      | refine VS.block ?_
      | refine VS.nil ?_
      | refine blockN_normal ?_
      | refine loopN_normal ?_
      | refine VS.exit ?_
      | refine blockN_hit ?_
      | refine blockN_miss (by decide) ?_
      | refine loopN_exit ?_
      | refine ⟨⟨by omega, by omega⟩, ?_⟩
      | (refine VS.region tabOk (id := 0) [] (by kernel_rfl) ?_; generalize hK : VS _ _ _ = KK; simp [hF, dSp, dObs_at hj, hj, he]; try subst hK; try (refine VS.keep [0, 1, 2, 3] ?_; generalize hK : VS _ _ _ = KK; simp; try subst hK))
      | (refine VS.region tabOk (id := 1) [] (by kernel_rfl) ?_; generalize hK : VS _ _ _ = KK; simp [hF, dSp, dObs_at hj, hj, he]; try subst hK; try (refine VS.keep [0, 1, 2, 3, 9] ?_; generalize hK : VS _ _ _ = KK; simp; try subst hK))
      | (refine VS.region tabOk (id := 2) [] (by kernel_rfl) ?_; generalize hK : VS _ _ _ = KK; simp [hF, dSp, dObs_at hj, hj, he]; try subst hK; try (refine VS.keep [0, 1, 2, 3, 9, 17] ?_; generalize hK : VS _ _ _ = KK; simp; try subst hK))
      | (refine VS.region tabOk (id := 3) [] (by kernel_rfl) ?_; generalize hK : VS _ _ _ = KK; simp [hF, dSp, dObs_at hj, hj, he]; try subst hK; try (refine VS.keep [8] ?_; generalize hK : VS _ _ _ = KK; simp; try subst hK))
      | (refine VS.region tabOk (id := 4) [] (by kernel_rfl) ?_; generalize hK : VS _ _ _ = KK; simp [hF, dSp, dObs_at hj, hj, he]; try subst hK; try (refine VS.keep [0, 2, 3, 10] ?_; generalize hK : VS _ _ _ = KK; simp; try subst hK))
      | (refine VS.region tabOk (id := 5) [] (by kernel_rfl) ?_; generalize hK : VS _ _ _ = KK; simp [hF, dSp, dObs_at hj, hj, he]; try subst hK; try (refine VS.keep [0, 2, 3, 10, 11] ?_; generalize hK : VS _ _ _ = KK; simp; try subst hK))
      | (refine VS.region tabOk (id := 6) [] (by kernel_rfl) ?_; generalize hK : VS _ _ _ = KK; simp [hF, dSp, dObs_at hj, hj, he]; try subst hK; try (refine VS.keep [0, 2, 3, 10, 11, 33] ?_; generalize hK : VS _ _ _ = KK; simp; try subst hK))
      | (refine VS.region tabOk (id := 7) [] (by kernel_rfl) ?_; generalize hK : VS _ _ _ = KK; simp [hF, dSp, dObs_at hj, hj, he]; try subst hK; try (refine VS.keep [] ?_; generalize hK : VS _ _ _ = KK; simp; try subst hK))
      | (refine VS.region tabOk (id := 8) [] (by kernel_rfl) ?_; generalize hK : VS _ _ _ = KK; simp [hF, dSp, dObs_at hj, hj, he]; try subst hK; try (refine VS.keep [8] ?_; generalize hK : VS _ _ _ = KK; simp; try subst hK))
      | (refine VS.region tabOk (id := 9) [] (by kernel_rfl) ?_; generalize hK : VS _ _ _ = KK; simp [hF, dSp, dObs_at hj, hj, he]; try subst hK; try (refine VS.keep [] ?_; generalize hK : VS _ _ _ = KK; simp; try subst hK))
      | (refine VS.region tabOk (id := 10) [] (by kernel_rfl) ?_; generalize hK : VS _ _ _ = KK; simp [hF, dSp, dObs_at hj, hj, he]; try subst hK; try (refine VS.keep [8] ?_; generalize hK : VS _ _ _ = KK; simp; try subst hK))
      | (refine VS.cond ?_; generalize hK1 : VS _ _ _ = KK1; generalize hK2 : VS _ _ _ = KK2; simp [hF, dSp, dObs_at hj, hj, he]; try subst hK1; try subst hK2)
    have ho := hS.ob _ (List.getElem_mem hj)
    have hnl := ho.names_len
    have hwl := ho.1
    refine (names_ok S hS.sh j hj ho (by omega)).call [(0, [])] (by simp) (by simp [hF, dSp, avOb]) (by simp [hF, dSp, avOb]) (by simp [hF, dSp, avOb]) ?_
    rintro av X κ ⟨rfl, rfl, rfl⟩
    generalize hK : VS _ _ _ = KK; simp [hF, dSp, avOb]; try subst hK
    repeat first
      | refine VS.seq ?_
      | refine VS.skip ?_
      | refine VS.block ?_
      | refine VS.nil ?_
      | refine blockN_normal ?_
      | refine loopN_normal ?_
      | refine VS.exit ?_
      | refine blockN_hit ?_
      | refine blockN_miss (by decide) ?_
      | refine loopN_exit ?_
      | refine ⟨⟨by omega, by omega⟩, ?_⟩
      | (refine VS.region tabOk (id := 0) [] (by kernel_rfl) ?_; generalize hK : VS _ _ _ = KK; simp [hF]; try subst hK; try (refine VS.keep [0, 1, 2, 3] ?_; generalize hK : VS _ _ _ = KK; simp; try subst hK))
      | (refine VS.region tabOk (id := 1) [] (by kernel_rfl) ?_; generalize hK : VS _ _ _ = KK; simp [hF]; try subst hK; try (refine VS.keep [0, 1, 2, 3, 9] ?_; generalize hK : VS _ _ _ = KK; simp; try subst hK))
      | (refine VS.region tabOk (id := 2) [] (by kernel_rfl) ?_; generalize hK : VS _ _ _ = KK; simp [hF]; try subst hK; try (refine VS.keep [0, 1, 2, 3, 9, 17] ?_; generalize hK : VS _ _ _ = KK; simp; try subst hK))
      | (refine VS.region tabOk (id := 3) [] (by kernel_rfl) ?_; generalize hK : VS _ _ _ = KK; simp [hF]; try subst hK; try (refine VS.keep [8] ?_; generalize hK : VS _ _ _ = KK; simp; try subst hK))
      | (refine VS.region tabOk (id := 4) [] (by kernel_rfl) ?_; generalize hK : VS _ _ _ = KK; simp [hF]; try subst hK; try (refine VS.keep [0, 2, 3, 10] ?_; generalize hK : VS _ _ _ = KK; simp; try subst hK))
      | (refine VS.region tabOk (id := 5) [] (by kernel_rfl) ?_; generalize hK : VS _ _ _ = KK; simp [hF]; try subst hK; try (refine VS.keep [0, 2, 3, 10, 11] ?_; generalize hK : VS _ _ _ = KK; simp; try subst hK))
      | (refine VS.region tabOk (id := 6) [] (by kernel_rfl) ?_; generalize hK : VS _ _ _ = KK; simp [hF]; try subst hK; try (refine VS.keep [0, 2, 3, 10, 11, 33] ?_; generalize hK : VS _ _ _ = KK; simp; try subst hK))
      | (refine VS.region tabOk (id := 7) [] (by kernel_rfl) ?_; generalize hK : VS _ _ _ = KK; simp [hF]; try subst hK; try (refine VS.keep [] ?_; generalize hK : VS _ _ _ = KK; simp; try subst hK))
      | (refine VS.region tabOk (id := 8) [] (by kernel_rfl) ?_; generalize hK : VS _ _ _ = KK; simp [hF]; try subst hK; try (refine VS.keep [8] ?_; generalize hK : VS _ _ _ = KK; simp; try subst hK))
      | (refine VS.region tabOk (id := 9) [] (by kernel_rfl) ?_; generalize hK : VS _ _ _ = KK; simp [hF]; try subst hK; try (refine VS.keep [] ?_; generalize hK : VS _ _ _ = KK; simp; try subst hK))
      | (refine VS.region tabOk (id := 10) [] (by kernel_rfl) ?_; generalize hK : VS _ _ _ = KK; simp [hF]; try subst hK; try (refine VS.keep [8] ?_; generalize hK : VS _ _ _ = KK; simp; try subst hK))
      | (refine VS.cond ?_; generalize hK1 : VS _ _ _ = KK1; generalize hK2 : VS _ _ _ = KK2; simp [hF]; try subst hK1; try subst hK2)
    refine (index_ok true false S.objs[j].names n (by omega)).call [(1, [])] (by simp) (by simp [hF, dSp]) (by simp [hF, dSp]) (by simp [hF, dSp]) ?_
    rintro av X κ ⟨rfl, rfl, rfl⟩
    generalize hK : VS _ _ _ = KK; simp [hF, dSp]; try subst hK
    repeat first
      | refine VS.seq ?_
      | refine VS.skip ?_
      | refine VS.block ?_
      | refine VS.nil ?_
      | refine blockN_normal ?_
      | refine loopN_normal ?_
      | refine VS.exit ?_
      | refine blockN_hit ?_
      | refine blockN_miss (by decide) ?_
      | refine loopN_exit ?_
      | refine ⟨⟨by omega, by omega⟩, ?_⟩
      | (refine VS.region tabOk (id := 0) [] (by kernel_rfl) ?_; generalize hK : VS _ _ _ = KK; simp [hF]; try subst hK; try (refine VS.keep [0, 1, 2, 3] ?_; generalize hK : VS _ _ _ = KK; simp; try subst hK))
      | (refine VS.region tabOk (id := 1) [] (by kernel_rfl) ?_; generalize hK : VS _ _ _ = KK; simp [hF]; try subst hK; try (refine VS.keep [0, 1, 2, 3, 9] ?_; generalize hK : VS _ _ _ = KK; simp; try subst hK))
      | (refine VS.region tabOk (id := 2) [] (by kernel_rfl) ?_; generalize hK : VS _ _ _ = KK; simp [hF]; try subst hK; try (refine VS.keep [0, 1, 2, 3, 9, 17] ?_; generalize hK : VS _ _ _ = KK; simp; try subst hK))
      | (refine VS.region tabOk (id := 3) [] (by kernel_rfl) ?_; generalize hK : VS _ _ _ = KK; simp [hF]; try subst hK; try (refine VS.keep [8] ?_; generalize hK : VS _ _ _ = KK; simp; try subst hK))
      | (refine VS.region tabOk (id := 4) [] (by kernel_rfl) ?_; generalize hK : VS _ _ _ = KK; simp [hF]; try subst hK; try (refine VS.keep [0, 2, 3, 10] ?_; generalize hK : VS _ _ _ = KK; simp; try subst hK))
      | (refine VS.region tabOk (id := 5) [] (by kernel_rfl) ?_; generalize hK : VS _ _ _ = KK; simp [hF]; try subst hK; try (refine VS.keep [0, 2, 3, 10, 11] ?_; generalize hK : VS _ _ _ = KK; simp; try subst hK))
      | (refine VS.region tabOk (id := 6) [] (by kernel_rfl) ?_; generalize hK : VS _ _ _ = KK; simp [hF]; try subst hK; try (refine VS.keep [0, 2, 3, 10, 11, 33] ?_; generalize hK : VS _ _ _ = KK; simp; try subst hK))
      | (refine VS.region tabOk (id := 7) [] (by kernel_rfl) ?_; generalize hK : VS _ _ _ = KK; simp [hF]; try subst hK; try (refine VS.keep [] ?_; generalize hK : VS _ _ _ = KK; simp; try subst hK))
      | (refine VS.region tabOk (id := 8) [] (by kernel_rfl) ?_; generalize hK : VS _ _ _ = KK; simp [hF]; try subst hK; try (refine VS.keep [8] ?_; generalize hK : VS _ _ _ = KK; simp; try subst hK))
      | (refine VS.region tabOk (id := 9) [] (by kernel_rfl) ?_; generalize hK : VS _ _ _ = KK; simp [hF]; try subst hK; try (refine VS.keep [] ?_; generalize hK : VS _ _ _ = KK; simp; try subst hK))
      | (refine VS.region tabOk (id := 10) [] (by kernel_rfl) ?_; generalize hK : VS _ _ _ = KK; simp [hF]; try subst hK; try (refine VS.keep [8] ?_; generalize hK : VS _ _ _ = KK; simp; try subst hK))
      | (refine VS.cond ?_; generalize hK1 : VS _ _ _ = KK1; generalize hK2 : VS _ _ _ = KK2; simp [hF]; try subst hK1; try subst hK2)
    refine ⟨fun h => ?_, fun h => ?_⟩
    · have hlt : (posIn n S.objs[j].names).toNat < S.objs[j].words.length := by
        rcases posBy_cases (fun x => decide (x = n)) S.objs[j].names with ⟨h1, _⟩ | ⟨i, hi, h1, _⟩
        · simp only [posIn] at h; omega
        · simp only [posIn, h1]; omega
      have hlt' : posIn n S.objs[j].names < S.objs[j].words.length := by omega
      have hnth := dInts_nth hlt
      have e1 := dObs_set S.objs j { S.objs[j] with words := S.objs[j].words.set (posIn n S.objs[j].names).toNat w }
      have e2 : ownOf { S.objs[j] with words := S.objs[j].words.set (posIn n S.objs[j].names).toNat w } = ownOf S.objs[j] := rfl
      rw [e2] at e1
      repeat first
        | refine VS.seq ?_
        | refine VS.skip ?_
        | refine VS.block ?_
        | refine VS.nil ?_
        | refine blockN_normal ?_
        | refine loopN_normal ?_
        | refine VS.exit ?_
        | refine blockN_hit ?_
        | refine blockN_miss (by decide) ?_
        | refine loopN_exit ?_
        | refine ⟨⟨by omega, by omega⟩, ?_⟩
        | (refine VS.region tabOk (id := 0) [] (by kernel_rfl) ?_; generalize hK : VS _ _ _ = KK; simp [hF, dSp, dObs_at hj, hj, h, hlt, hlt', hnth]; try subst hK; try (refine VS.keep [0, 1, 2, 3] ?_; generalize hK : VS _ _ _ = KK; simp; try subst hK))
        | (refine VS.region tabOk (id := 1) [] (by kernel_rfl) ?_; generalize hK : VS _ _ _ = KK; simp [hF, dSp, dObs_at hj, hj, h, hlt, hlt', hnth]; try subst hK; try (refine VS.keep [0, 1, 2, 3, 9] ?_; generalize hK : VS _ _ _ = KK; simp; try subst hK))
        | (refine VS.region tabOk (id := 2) [] (by kernel_rfl) ?_; generalize hK : VS _ _ _ = KK; simp [hF, dSp, dObs_at hj, hj, h, hlt, hlt', hnth]; try subst hK; try (refine VS.keep [0, 1, 2, 3, 9, 17] ?_; generalize hK : VS _ _ _ = KK; simp; try subst hK))
        | (refine VS.region tabOk (id := 3) [] (by kernel_rfl) ?_; generalize hK : VS _ _ _ = KK; simp [hF, dSp, dObs_at hj, hj, h, hlt, hlt', hnth]; try subst hK; try (refine VS.keep [8] ?_; generalize hK : VS _ _ _ = KK; simp; try subst hK))
        | (refine VS.region tabOk (id := 4) [] (by kernel_rfl) ?_; generalize hK : VS _ _ _ = KK; simp [hF, dSp, dObs_at hj, hj, h, hlt, hlt', hnth]; try subst hK; try (refine VS.keep [0, 2, 3, 10] ?_; generalize hK : VS _ _ _ = KK; simp; try subst hK))
        | (refine VS.region tabOk (id := 5) [] (by kernel_rfl) ?_; generalize hK : VS _ _ _ = KK; simp [hF, dSp, dObs_at hj, hj, h, hlt, hlt', hnth]; try subst hK; try (refine VS.keep [0, 2, 3, 10, 11] ?_; generalize hK : VS _ _ _ = KK; simp; try subst hK))
        | (refine VS.region tabOk (id := 6) [] (by kernel_rfl) ?_; generalize hK : VS _ _ _ = KK; simp [hF, dSp, dObs_at hj, hj, h, hlt, hlt', hnth]; try subst hK; try (refine VS.keep [0, 2, 3, 10, 11, 33] ?_; generalize hK : VS _ _ _ = KK; simp; try subst hK))
        | (refine VS.region tabOk (id := 7) [] (by kernel_rfl) ?_; generalize hK : VS _ _ _ = KK; simp [hF, dSp, dObs_at hj, hj, h, hlt, hlt', hnth]; try subst hK; try (refine VS.keep [] ?_; generalize hK : VS _ _ _ = KK; simp; try subst hK))
        | (refine VS.region tabOk (id := 8) [] (by kernel_rfl) ?_; generalize hK : VS _ _ _ = KK; simp [hF, dSp, dObs_at hj, hj, h, hlt, hlt', hnth]; try subst hK; try (refine VS.keep [8] ?_; generalize hK : VS _ _ _ = KK; simp; try subst hK))
        | (refine VS.region tabOk (id := 9) [] (by kernel_rfl) ?_; generalize hK : VS _ _ _ = KK; simp [hF, dSp, dObs_at hj, hj, h, hlt, hlt', hnth]; try subst hK; try (refine VS.keep [] ?_; generalize hK : VS _ _ _ = KK; simp; try subst hK))
        | (refine VS.region tabOk (id := 10) [] (by kernel_rfl) ?_; generalize hK : VS _ _ _ = KK; simp [hF, dSp, dObs_at hj, hj, h, hlt, hlt', hnth]; try subst hK; try (refine VS.keep [8] ?_; generalize hK : VS _ _ _ = KK; simp; try subst hK))
        | (refine VS.cond ?_; generalize hK1 : VS _ _ _ = KK1; generalize hK2 : VS _ _ _ = KK2; simp [hF, dSp, dObs_at hj, hj, h, hlt, hlt', hnth]; try subst hK1; try subst hK2)
      try refine VS.ret ?_
      repeat first | refine blockN_ret ?_ | refine loopN_ret ?_
      refine endK.of [8] [0] [(0, [.d])] (by simp [hF]) (by simp [covers, mpre]) ?_
      simp [hF, retK, dSp, setOf, he, obAt_eq hj, h, setOb, e1]
    · have h' : ¬ 0 ≤ posIn n S.objs[j].names := by omega
      repeat first
        | refine VS.seq ?_
        | refine VS.skip ?_
        | refine VS.block ?_
        | refine VS.nil ?_
        | refine blockN_normal ?_
        | refine loopN_normal ?_
        | refine VS.exit ?_
        | refine blockN_hit ?_
        | refine blockN_miss (by decide) ?_
        | refine loopN_exit ?_
        | refine ⟨⟨by omega, by omega⟩, ?_⟩
        | (refine VS.region tabOk (id := 0) [] (by kernel_rfl) ?_; generalize hK : VS _ _ _ = KK; simp [hF, dSp, dObs_at hj, hj]; try subst hK; try (refine VS.keep [0, 1, 2, 3] ?_; generalize hK : VS _ _ _ = KK; simp; try subst hK))
        | (refine VS.region tabOk (id := 1) [] (by kernel_rfl) ?_; generalize hK : VS _ _ _ = KK; simp [hF, dSp, dObs_at hj, hj]; try subst hK; try (refine VS.keep [0, 1, 2, 3, 9] ?_; generalize hK : VS _ _ _ = KK; simp; try subst hK))
        | (refine VS.region tabOk (id := 2) [] (by kernel_rfl) ?_; generalize hK : VS _ _ _ = KK; simp [hF, dSp, dObs_at hj, hj]; try subst hK; try (refine VS.keep [0, 1, 2, 3, 9, 17] ?_; generalize hK : VS _ _ _ = KK; simp; try subst hK))
        | (refine VS.region tabOk (id := 3) [] (by kernel_rfl) ?_; generalize hK : VS _ _ _ = KK; simp [hF, dSp, dObs_at hj, hj]; try subst hK; try (refine VS.keep [8] ?_; generalize hK : VS _ _ _ = KK; simp; try subst hK))
        | (refine VS.region tabOk (id := 4) [] (by kernel_rfl) ?_; generalize hK : VS _ _ _ = KK; simp [hF, dSp, dObs_at hj, hj]; try subst hK; try (refine VS.keep [0, 2, 3, 10] ?_; generalize hK : VS _ _ _ = KK; simp; try subst hK))
        | (refine VS.region tabOk (id := 5) [] (by kernel_rfl) ?_; generalize hK : VS _ _ _ = KK; simp [hF, dSp, dObs_at hj, hj]; try subst hK; try (refine VS.keep [0, 2, 3, 10, 11] ?_; generalize hK : VS _ _ _ = KK; simp; try subst hK))
        | (refine VS.region tabOk (id := 6) [] (by kernel_rfl) ?_; generalize hK : VS _ _ _ = KK; simp [hF, dSp, dObs_at hj, hj]; try subst hK; try (refine VS.keep [0, 2, 3, 10, 11, 33] ?_; generalize hK : VS _ _ _ = KK; simp; try subst hK))
        | (refine VS.region tabOk (id := 7) [] (by kernel_rfl) ?_; generalize hK : VS _ _ _ = KK; simp [hF, dSp, dObs_at hj, hj]; try subst hK; try (refine VS.keep [] ?_; generalize hK : VS _ _ _ = KK; simp; try subst hK))
        | (refine VS.region tabOk (id := 8) [] (by kernel_rfl) ?_; generalize hK : VS _ _ _ = KK; simp [hF, dSp, dObs_at hj, hj]; try subst hK; try (refine VS.keep [8] ?_; generalize hK : VS _ _ _ = KK; simp; try subst hK))
        | (refine VS.region tabOk (id := 9) [] (by kernel_rfl) ?_; generalize hK : VS _ _ _ = KK; simp [hF, dSp, dObs_at hj, hj]; try subst hK; try (refine VS.keep [] ?_; generalize hK : VS _ _ _ = KK; simp; try subst hK))
        | (refine VS.region tabOk (id := 10) [] (by kernel_rfl) ?_; generalize hK : VS _ _ _ = KK; simp [hF, dSp, dObs_at hj, hj]; try subst hK; try (refine VS.keep [8] ?_; generalize hK : VS _ _ _ = KK; simp; try subst hK))
        | (refine VS.cond ?_; generalize hK1 : VS _ _ _ = KK1; generalize hK2 : VS _ _ _ = KK2; simp [hF, dSp, dObs_at hj, hj]; try subst hK1; try subst hK2)
      refine (add_ok S hS.sh j hj ho hN n w).call [(0, [])] (by simp) (by simp [hF, dSp, addOf]) (by simp [hF, dSp, addOf]) (by simp [hF, dSp, addOf]) ?_
      rintro av X κ ⟨rfl, rfl, rfl⟩
      generalize hK : VS _ _ _ = KK; simp [hF, dSp, addOf]; try subst hK
      repeat first
        | refine VS.seq ?_
        | refine VS.skip ?_
        | refine VS.block ?_
        | refine VS.nil ?_
        | refine blockN_normal ?_
        | refine loopN_normal ?_
        | refine VS.exit ?_
        | refine blockN_hit ?_
        | refine blockN_miss (by decide) ?_
        | refine loopN_exit ?_
        | refine ⟨⟨by omega, by omega⟩, ?_⟩
        | (refine VS.region tabOk (id := 0) [] (by kernel_rfl) ?_; generalize hK : VS _ _ _ = KK; simp [hF]; try subst hK; try (refine VS.keep [0, 1, 2, 3] ?_; generalize hK : VS _ _ _ = KK; simp; try subst hK))
        | (refine VS.region tabOk (id := 1) [] (by kernel_rfl) ?_; generalize hK : VS _ _ _ = KK; simp [hF]; try subst hK; try (refine VS.keep [0, 1, 2, 3, 9] ?_; generalize hK : VS _ _ _ = KK; simp; try subst hK))
        | (refine VS.region tabOk (id := 2) [] (by kernel_rfl) ?_; generalize hK : VS _ _ _ = KK; simp [hF]; try subst hK; try (refine VS.keep [0, 1, 2, 3, 9, 17] ?_; generalize hK : VS _ _ _ = KK; simp; try subst hK))
        | (refine VS.region tabOk (id := 3) [] (by kernel_rfl) ?_; generalize hK : VS _ _ _ = KK; simp [hF]; try subst hK; try (refine VS.keep [8] ?_; generalize hK : VS _ _ _ = KK; simp; try subst hK))
        | (refine VS.region tabOk (id := 4) [] (by kernel_rfl) ?_; generalize hK : VS _ _ _ = KK; simp [hF]; try subst hK; try (refine VS.keep [0, 2, 3, 10] ?_; generalize hK : VS _ _ _ = KK; simp; try subst hK))
        | (refine VS.region tabOk (id := 5) [] (by kernel_rfl) ?_; generalize hK : VS _ _ _ = KK; simp [hF]; try subst hK; try (refine VS.keep [0, 2, 3, 10, 11] ?_; generalize hK : VS _ _ _ = KK; simp; try subst hK))
        | (refine VS.region tabOk (id := 6) [] (by kernel_rfl) ?_; generalize hK : VS _ _ _ = KK; simp [hF]; try subst hK; try (refine VS.keep [0, 2, 3, 10, 11, 33] ?_; generalize hK : VS _ _ _ = KK; simp; try subst hK))
        | (refine VS.region tabOk (id := 7) [] (by kernel_rfl) ?_; generalize hK : VS _ _ _ = KK; simp [hF]; try subst hK; try (refine VS.keep [] ?_; generalize hK : VS _ _ _ = KK; simp; try subst hK))
        | (refine VS.region tabOk (id := 8) [] (by kernel_rfl) ?_; generalize hK : VS _ _ _ = KK; simp [hF]; try subst hK; try (refine VS.keep [8] ?_; generalize hK : VS _ _ _ = KK; simp; try subst hK))
        | (refine VS.region tabOk (id := 9) [] (by kernel_rfl) ?_; generalize hK : VS _ _ _ = KK; simp [hF]; try subst hK; try (refine VS.keep [] ?_; generalize hK : VS _ _ _ = KK; simp; try subst hK))
        | (refine VS.region tabOk (id := 10) [] (by kernel_rfl) ?_; generalize hK : VS _ _ _ = KK; simp [hF]; try subst hK; try (refine VS.keep [8] ?_; generalize hK : VS _ _ _ = KK; simp; try subst hK))
        | (refine VS.cond ?_; generalize hK1 : VS _ _ _ = KK1; generalize hK2 : VS _ _ _ = KK2; simp [hF]; try subst hK1; try subst hK2)
      try refine VS.ret ?_
      repeat first | refine blockN_ret ?_ | refine loopN_ret ?_
      refine endK.of [8] [0] [(0, [.d])] (by simp [hF]) (by simp [covers, mpre]) ?_
      simp [hF, retK, dSp, setOf, he, obAt_eq hj, h', addOf]
end Go.Proofs.Ythcndkpkkaphoaa

/- The deeds keep the state's laws. -/
namespace Go.Proofs.Ythcndkpkkaphoaa
set_option linter.all false
open Go.Vc Go.Proofs

theorem lastName_snoc (l : List ByteArray) (n : ByteArray) : lastName (l ++ [n]) = n := by simp [lastName]

theorem ObOk.mono {l l' : List Sh} {N N' : Nat} {o : Ob} (h : ObOk l N o) (hl : ∀ k (hk : k < l.length), ∃ hk' : k < l'.length, l'[k] = l[k]) (hN : N ≤ N') : ObOk l' N' o := by
  obtain ⟨h1, h2, h3⟩ := h
  refine ⟨h1, by omega, h3.imp id ?_⟩
  rintro ⟨k, hk, h4, h5⟩
  obtain ⟨hk', h6⟩ := hl k hk
  exact ⟨k, hk', h4, by rw [h6]; exact h5⟩

theorem belowOf_at {l : List Sh} (hl : ShOk l) {k : Nat} (hk : k < l.length) {n : ByteArray} (h : 0 ≤ belowOf l k n) : ∃ (i : Nat) (hi : i < l.length), belowOf l k n = i ∧ l[i].names = l[k].names ++ [n] := by
  rcases posBy_cases (fun s => decide (s.parent = (k : Int)) && decide (lastName s.names = n)) l with ⟨h1, _⟩ | ⟨i, hi, h1, h2, _⟩
  · have h : 0 ≤ posBy (fun s => decide (s.parent = (k : Int)) && decide (lastName s.names = n)) l := h
    omega
  · refine ⟨i, hi, h1, ?_⟩
    simp only [Bool.and_eq_true, decide_eq_true_eq] at h2
    obtain ⟨h3, h4⟩ := h2
    rcases Nat.eq_zero_or_pos i with rfl | hp
    · rw [hl.root hi] at h3; simp at h3
    · obtain ⟨p, hp', m, h5, h6⟩ := hl.below i hi hp
      have : p = k := by omega
      subst this
      rw [h6, lastName_snoc] at h4
      rw [h6, h4]

theorem stepSh_old (l : List Sh) (o : Ob) (n : ByteArray) : ∀ k (hk : k < l.length), ∃ hk' : k < (stepSh l o n).1.length, (stepSh l o n).1[k] = l[k] := by
  intro k hk
  unfold stepSh
  split
  · exact ⟨hk, rfl⟩
  · split
    · exact ⟨hk, rfl⟩
    · split
      · exact ⟨hk, rfl⟩
      · exact ⟨by simp; omega, by simp [List.getElem_append_left hk]⟩

theorem stepSh_ok {l : List Sh} (hl : ShOk l) {N : Nat} {o : Ob} (ho : ObOk l N o) (n : ByteArray) (w : Int) : ShOk (stepSh l o n).1 ∧ ObOk (stepSh l o n).1 (o.names.length + 1) (addOb l o n w) := by
  have hlen : (o.words ++ [w]).length = (o.names ++ [n]).length := by simp [ho.1]
  have hn : (o.names ++ [n]).length ≤ o.names.length + 1 := by simp
  by_cases h1 : o.shape = -1 ∨ 12 ≤ o.names.length
  · have e : stepSh l o n = (l, -1) := by unfold stepSh; rw [if_pos h1]
    unfold addOb
    rw [e]
    exact ⟨hl, hlen, hn, .inl rfl⟩
  · have h1a : o.shape ≠ -1 := fun h => h1 (.inl h)
    have h1b : ¬ 12 ≤ o.names.length := fun h => h1 (.inr h)
    obtain ⟨k, hk, h2, h3⟩ := ho.2.2.resolve_left h1a
    by_cases h4 : 0 ≤ belowOf l o.shape n
    · have e : stepSh l o n = (l, belowOf l o.shape n) := by unfold stepSh; rw [if_neg h1, if_pos h4]
      unfold addOb
      rw [e]
      rw [h2] at h4
      obtain ⟨i, hi, h5, h6⟩ := belowOf_at hl hk h4
      exact ⟨hl, hlen, hn, .inr ⟨i, hi, by rw [h2]; exact h5, by rw [h6, h3]⟩⟩
    · by_cases h5 : 200 ≤ l.length
      · have e : stepSh l o n = (l, -1) := by unfold stepSh; rw [if_neg h1, if_neg h4, if_pos h5]
        unfold addOb
        rw [e]
        exact ⟨hl, hlen, hn, .inl rfl⟩
      · have e : stepSh l o n = (l ++ [⟨o.shape, o.names ++ [n]⟩], (l.length : Int)) := by unfold stepSh; rw [if_neg h1, if_neg h4, if_neg h5]
        unfold addOb
        rw [e]
        refine ⟨⟨by simp; omega, fun h => ?_, fun i hi hp => ?_, fun i hi => ?_⟩, hlen, hn, .inr ⟨l.length, by simp, rfl, by simp⟩⟩
        · simp only [List.getElem_append_left (show 0 < l.length by omega)]
          exact hl.root _
        · rcases Nat.lt_or_ge i l.length with hi' | hi'
          · obtain ⟨p, hp', m, h6, h7⟩ := hl.below i hi' hp
            refine ⟨p, hp', m, ?_, ?_⟩
            · simp only [List.getElem_append_left hi']; exact h6
            · simp only [List.getElem_append_left hi', List.getElem_append_left (show p < l.length by omega)]; exact h7
          · have : i = l.length := by simp at hi; omega
            subst this
            refine ⟨k, hk, n, by simp [h2], ?_⟩
            simp only [List.getElem_append_left hk]
            simp [h3]
        · rcases Nat.lt_or_ge i l.length with hi' | hi'
          · simp only [List.getElem_append_left hi']; exact hl.deep i hi'
          · have : i = l.length := by simp at hi; omega
            subst this
            simp; omega

theorem addOf_wf {S : Sp} {N : Nat} (hS : WF S N) {j : Nat} {o : Ob} (ho : ObOk S.shapes N o) (n : ByteArray) (w : Int) : WF (addOf S j o n w) (N + 1) := by
  obtain ⟨h1, h2⟩ := stepSh_ok hS.sh ho n w
  refine ⟨h1, by simpa [addOf] using hS.no, fun x hx => ?_⟩
  simp only [addOf] at hx
  rcases List.mem_or_eq_of_mem_set hx with h | rfl
  · exact (hS.ob x h).mono (stepSh_old _ _ _) (by omega)
  · exact h2.mono (fun _ hk => ⟨hk, rfl⟩) (by have := ho.2.1; omega)

theorem WF.mono {S : Sp} {N N' : Nat} (h : WF S N) (hN : N ≤ N') : WF S N' := ⟨h.sh, h.no, fun o ho => (h.ob o ho).mono (fun _ hk => ⟨hk, rfl⟩) hN⟩

theorem setOb_wf {S : Sp} {N : Nat} (hS : WF S N) {j : Int} {o : Ob} (ho : ObOk S.shapes N o) : WF (setOb S j o) N := by
  refine ⟨hS.sh, by simpa [setOb] using hS.no, fun x hx => ?_⟩
  simp only [setOb] at hx
  rcases List.mem_or_eq_of_mem_set hx with h | rfl
  · exact hS.ob x h
  · exact ho

/- The loop of Delete. -/
theorem refill_end (S : Sp) (j i k : Nat) (ns : List ByteArray) (ws : List Int) (h : ns.length = ws.length) (hn : ns = []) : refill S j i k ns ws = S := by
  subst hn
  cases ws with
  | nil => rfl
  | cons => simp at h

theorem refill_step {S : Sp} {j i k : Nat} {ns : List ByteArray} {ws : List Int} (hk : k < ns.length) (hw : k < ws.length) :
    refill S j i k (ns.drop k) (ws.drop k) = if k = i then refill S j i (k + 1) (ns.drop (k + 1)) (ws.drop (k + 1)) else refill (addOf S j (S.objs.getD j ⟨0, [], [], false⟩) ns[k] ws[k]) j i (k + 1) (ns.drop (k + 1)) (ws.drop (k + 1)) := by
  rw [List.drop_eq_getElem_cons hk, List.drop_eq_getElem_cons hw]
  rfl

structure RefillAt (S0 : Sp) (j i : Nat) (ns : List ByteArray) (ws : List Int) (k : Nat) (S : Sp) : Prop where
  sh : ShOk S.shapes
  hj : j < S.objs.length
  ob : ObOk S.shapes k S.objs[j]
  eq : refill S0 j i 0 ns ws = refill S j i k (ns.drop k) (ws.drop k)

theorem RefillAt.skip {S0 S : Sp} {j i : Nat} {ns : List ByteArray} {ws : List Int} {k : Nat} (h : RefillAt S0 j i ns ws k S) (hk : k < ns.length) (hw : k < ws.length) (hi : k = i) : RefillAt S0 j i ns ws (k + 1) S :=
  ⟨h.sh, h.hj, h.ob.mono (fun _ hk => ⟨hk, rfl⟩) (by omega), by rw [h.eq, refill_step hk hw, if_pos hi]⟩

theorem RefillAt.add {S0 S : Sp} {j i : Nat} {ns : List ByteArray} {ws : List Int} {k : Nat} (h : RefillAt S0 j i ns ws k S) (hk : k < ns.length) (hw : k < ws.length) (hi : ¬ k = i) :
    RefillAt S0 j i ns ws (k + 1) (addOf S j (S.objs[j]'h.hj) ns[k] ws[k]) := by
  have hj := h.hj
  obtain ⟨h1, h2⟩ := stepSh_ok h.sh h.ob ns[k] ws[k]
  refine ⟨h1, by simpa [addOf] using hj, ?_, ?_⟩
  · simp only [addOf, List.getElem_set_self]
    exact h2.mono (fun _ hk => ⟨hk, rfl⟩) (by have := h.ob.2.1; omega)
  · rw [h.eq, refill_step hk hw, if_neg hi]
    congr 2
    simp [hj]

end Go.Proofs.Ythcndkpkkaphoaa
