/- ShapeClones: a clone has the names, words and shape, and stays as it is. -/
import Derived.Test.YthcndkpkkaphoaaK4
import Derived.Test.YthcndkpkkaphoaaK3
import Derived.ChangeArms
import Derived.ChangeSlices
import Derived.Carry
namespace Go.Proofs.Ythcndkpkkaphoaa
set_option linter.all false
open Go.Vc Go.Proofs
set_option linter.unusedSimpArgs false
set_option maxRecDepth 100000
set_option maxHeartbeats 4000000
attribute [local irreducible] CallW EqK

theorem get_at {S : Sp} {N : Nat} (hwf : WF S N) (hg : Good S) {j i : Nat} (hj : j < S.objs.length) (hi : i < S.objs[j].names.length) (hp : 0 < S.shapes.length) :
    ∃ h : i < S.objs[j].words.length, getOf S j S.objs[j].names[i] = (S.objs[j].words[i], 0) := by
  have ho := hwf.ob _ (List.getElem_mem hj)
  obtain ⟨hnd, hval⟩ := hg _ (List.getElem_mem hj)
  have hb : hasB S j = true := by simp [hasB]; omega
  have hn : namedB S.objs[j].names[i] = true := hval _ (List.getElem_mem hi)
  have ha : askOf S j S.objs[j].names[i] false = 0 := by
    have hn' : ¬ (S.objs[j].names[i] = noName ∨ 40 < S.objs[j].names[i].size) := by simpa [namedB] using hn
    simp [askOf, hb, hn']
  have hw : i < S.objs[j].words.length := by rw [ho.1]; exact hi
  refine ⟨hw, ?_⟩
  unfold getOf
  rw [if_neg (by simp [ha]), obAt_eq hj, posIn_nodup hnd hi, if_neg (by omega)]
  simp [hw]

theorem clone_facts {S : Sp} {N : Nat} (hwf : WF S N) (hgood : Good S) (hpos : 0 < S.shapes.length) {j : Nat} (hj : j < S.objs.length) (hlt : S.objs.length < 100) :
    ∃ (S1 : Sp) (c : Nat), cloneOf S j = (S1, (c : Int), 0) ∧ WF S1 N ∧ Good S1 ∧ 0 < S1.shapes.length ∧ c ≠ j ∧ hasB S1 j = true ∧ hasB S1 c = true ∧ ∃ (hj1 : j < S1.objs.length) (hc1 : c < S1.objs.length), S1.objs[j] = S.objs[j] ∧ S1.objs[c] = { S.objs[j] with frozen := false } := by
  have hb : hasB S j = true := by simp [hasB]; omega
  have hcl : cloneOf S j = (⟨S.shapes, S.objs ++ [{ S.objs[j] with frozen := false }]⟩, (S.objs.length : Int), 0) := by
    unfold cloneOf
    rw [if_neg (by simp [hb]), if_neg (by omega), obAt_eq hj]
  have hwf1 : WF (cloneOf S j).1 N := cloneOf_wf hwf j
  rw [hcl] at hwf1
  refine ⟨_, _, hcl, hwf1, good_push (o := { S.objs[j] with frozen := false }) hgood (hgood S.objs[j] (List.getElem_mem hj)) _, hpos, by omega, by simp [hasB]; omega, by simp [hasB]; omega, by simp; omega, by simp, ?_, ?_⟩
  · simp only [List.getElem_append_left hj]
  · simp only [List.getElem_concat_length]

/- cabochon/cabochonlaw20.ShapeClones -/
theorem clones_ok (ex ex2 : Bool) (l : List Deed) (object : Int) (more : List Deed) : Meets Try.prog 7 [] (.cons (.imm 4 (dDeeds l) ex) (.cons (avInt object) (.cons (.imm 4 (dDeeds more) ex2) .nil))) fun av X κ => av = .val (.bool true) := by
  obtain ⟨q, hq, h1, h2⟩ := exists_part object 5 (by omega) (by omega)
  obtain ⟨hwf, hpos⟩ := playedOf_wf l
  have hgood := playedOf_good l
  refine Meets.of_vs tabOk Try.func7 (body := ?_) ?_ (by kernel_rfl) Try.ntmps7 (rs := [.tmp 6]) (by kernel_rfl) rfl (by simp [AV.len]) (by simp only [envOf]; exact rfl) ?_
  rotate_left
  · rfl
  intro w0 I0 F0 hF
  repeat first
    | refine VS.seq ?_
    | (refine VS.keepAt 0 [0, 1, 2] ?_; generalize hK : VS _ _ _ = KK; (try simp); (try subst hK); refine VS.region tabOk (id := 0) [] (by kernel_rfl) ?_; generalize hK : VS _ _ _ = KK; simp (maxSteps := 1000000) [hF]; (try subst hK); try (refine VS.keep [0, 1, 2] ?_; generalize hK : VS _ _ _ = KK; simp; (try subst hK)))
    | (refine VS.keepAt 1 [0, 1, 2] ?_; generalize hK : VS _ _ _ = KK; (try simp); (try subst hK); refine VS.region tabOk (id := 1) [] (by kernel_rfl) ?_; generalize hK : VS _ _ _ = KK; simp (maxSteps := 1000000) [hF]; (try subst hK); try (refine VS.keep [0, 1, 2, 34] ?_; generalize hK : VS _ _ _ = KK; simp; (try subst hK)))
    | (refine VS.cond ?_; generalize hK1 : VS _ _ _ = KK1; generalize hK2 : VS _ _ _ = KK2; simp (maxSteps := 1000000) [hF]; (try subst hK1); (try subst hK2))
  refine ⟨fun hlen => ?_, fun hlen => ?_⟩
  · repeat first
      | refine VS.seq ?_
      | (refine VS.keepAt 2 [] ?_; generalize hK : VS _ _ _ = KK; (try simp); (try subst hK); refine VS.region tabOk (id := 2) [] (by kernel_rfl) ?_; generalize hK : VS _ _ _ = KK; simp (maxSteps := 1000000) [hF]; (try subst hK); try (refine VS.keep [6] ?_; generalize hK : VS _ _ _ = KK; simp; (try subst hK)))
    refine (sane_ok).call [] (by simp) (by simp (maxSteps := 1000000) [hF]) (by simp (maxSteps := 1000000) [hF]) (by simp (maxSteps := 1000000) [hF]) ?_
    rintro av X κ ⟨rfl, rfl, rfl⟩
    generalize hK : VS _ _ _ = KK; simp (maxSteps := 1000000) [hF]; (try subst hK)
    try refine VS.ret ?_
    repeat first | refine blockN_ret ?_ | refine loopN_ret ?_
    refine endK.of [6] [] [] (by simp [hF]) (by simp [covers, mpre]) ?_
    simp [hF, retK]
  · have hlen' : more.length ≤ 60 := by omega
    repeat first
      | refine VS.seq ?_
      | refine VS.skip ?_
      | (refine VS.keepAt 3 [0, 1, 2] ?_; generalize hK : VS _ _ _ = KK; (try simp); (try subst hK); refine VS.region tabOk (id := 3) [] (by kernel_rfl) ?_; generalize hK : VS _ _ _ = KK; simp (maxSteps := 1000000) [hF]; (try subst hK); try (refine VS.keep [1, 2, 7] ?_; generalize hK : VS _ _ _ = KK; simp; (try subst hK)))
    refine (played_ok ex l).call [] (by simp) (by simp (maxSteps := 1000000) [hF]) (by simp (maxSteps := 1000000) [hF]) (by simp (maxSteps := 1000000) [hF]) ?_
    rintro av X κ ⟨rfl, rfl, rfl⟩
    generalize hK : VS _ _ _ = KK; simp (maxSteps := 1000000) [hF]; (try subst hK)
    generalize playedOf l = S at *
    repeat first
      | refine VS.seq ?_
      | (refine VS.keepAt 4 [1, 2, 7] ?_; generalize hK : VS _ _ _ = KK; (try simp); (try subst hK); refine VS.region tabOk (id := 4) [] (by kernel_rfl) ?_; generalize hK : VS _ _ _ = KK; simp (maxSteps := 1000000) [hF, hq]; (try subst hK); try (refine VS.keep [2, 7, 8] ?_; generalize hK : VS _ _ _ = KK; simp; (try subst hK)))
      | (refine VS.keepAt 5 [2, 7, 8] ?_; generalize hK : VS _ _ _ = KK; (try simp); (try subst hK); refine VS.region tabOk (id := 5) [] (by kernel_rfl) ?_; generalize hK : VS _ _ _ = KK; simp (maxSteps := 1000000) [hF, hq]; (try subst hK); try (refine VS.keep [2, 7, 8, 9, 10] ?_; generalize hK : VS _ _ _ = KK; simp; (try subst hK)))
    by_cases hno : hasB S q = false ∨ 100 ≤ S.objs.length
    · obtain ⟨e, he, hne⟩ : ∃ e, cloneOf S q = (S, 0, e) ∧ e ≠ 0 := by
        unfold cloneOf
        split
        · exact ⟨1, rfl, by simp⟩
        · rename_i hb
          rw [if_pos (hno.resolve_left hb)]
          exact ⟨9, rfl, by simp⟩
      refine (clone_ok S hwf (by omega) q).call [(0, [])] (by simp) (by simp (maxSteps := 1000000) [hF, dSp, he]) (by simp (maxSteps := 1000000) [hF, dSp, he]) (by simp (maxSteps := 1000000) [hF, dSp, he]) ?_
      rintro av X κ ⟨rfl, rfl, rfl⟩
      generalize hK : VS _ _ _ = KK; simp (maxSteps := 1000000) [hF, dSp, he]; (try subst hK)
      repeat first
        | refine VS.seq ?_
        | (refine VS.keepAt 6 [2, 7, 8, 9, 10] ?_; generalize hK : VS _ _ _ = KK; (try simp); (try subst hK); refine VS.region tabOk (id := 6) [] (by kernel_rfl) ?_; generalize hK : VS _ _ _ = KK; simp (maxSteps := 1000000) [hF, hne]; (try subst hK); try (refine VS.keep [2, 7, 8, 9, 49] ?_; generalize hK : VS _ _ _ = KK; simp; (try subst hK)))
        | (refine VS.keepAt 7 [] ?_; generalize hK : VS _ _ _ = KK; (try simp); (try subst hK); refine VS.region tabOk (id := 7) [] (by kernel_rfl) ?_; generalize hK : VS _ _ _ = KK; simp (maxSteps := 1000000) [hF, hne]; (try subst hK); try (refine VS.keep [6] ?_; generalize hK : VS _ _ _ = KK; simp; (try subst hK)))
        | (refine VS.cond ?_; generalize hK1 : VS _ _ _ = KK1; generalize hK2 : VS _ _ _ = KK2; simp (maxSteps := 1000000) [hF, hne]; (try subst hK1); (try subst hK2))
      refine (sane_ok).call [] (by simp) (by simp (maxSteps := 1000000) [hF]) (by simp (maxSteps := 1000000) [hF]) (by simp (maxSteps := 1000000) [hF]) ?_
      rintro av X κ ⟨rfl, rfl, rfl⟩
      generalize hK : VS _ _ _ = KK; simp (maxSteps := 1000000) [hF]; (try subst hK)
      try refine VS.ret ?_
      repeat first | refine blockN_ret ?_ | refine loopN_ret ?_
      refine endK.of [6] [] [] (by simp [hF]) (by simp [covers, mpre]) ?_
      simp [hF, retK]
    · simp only [not_or] at hno
      have hb : hasB S q = true := by simpa using hno.1
      obtain ⟨j, rfl, hj, _⟩ := hasB_true hb
      have ho := hwf.ob _ (List.getElem_mem hj)
      have hnl := ho.names_len
      have hwl := ho.1
      obtain ⟨hnd, hval⟩ := hgood _ (List.getElem_mem hj)
      obtain ⟨S1, c, hcl, hwf1, hgood1, hpos1, hcj, b1, b2, hj1, hc1, a1, a2⟩ := clone_facts hwf hgood hpos hj (by omega)
      refine (clone_ok S hwf (by omega) j).call [(0, [])] (by simp) (by simp (maxSteps := 1000000) [hF, dSp, hcl]) (by simp (maxSteps := 1000000) [hF, dSp, hcl]) (by simp (maxSteps := 1000000) [hF, dSp, hcl]) ?_
      rintro av X κ ⟨rfl, rfl, rfl⟩
      generalize hK : VS _ _ _ = KK; simp (maxSteps := 1000000) [hF, dSp, hcl]; (try subst hK)
      have s1 : shapeOf S1 j = (S.objs[j].shape, 0) := by simp [shapeOf, b1, obAt_eq hj1, a1]
      have s2 : shapeOf S1 c = (S.objs[j].shape, 0) := by simp [shapeOf, b2, obAt_eq hc1, a2]
      have f2 : frozenOf S1 c = (false, 0) := by simp [frozenOf, b2, obAt_eq hc1, a2]
      have g1 : ∀ i (hi : i < S.objs[j].names.length), ∃ h : i < S.objs[j].words.length, getOf S1 j S.objs[j].names[i] = (S.objs[j].words[i], 0) := fun i hi => by
        have := get_at hwf1 hgood1 hj1 (i := i) (by rw [a1]; exact hi) hpos1
        simpa only [a1] using this
      repeat first
        | refine VS.seq ?_
        | refine VS.skip ?_
        | (refine VS.keepAt 6 [2, 7, 8, 9, 10] ?_; generalize hK : VS _ _ _ = KK; (try simp); (try subst hK); refine VS.region tabOk (id := 6) [] (by kernel_rfl) ?_; generalize hK : VS _ _ _ = KK; simp (maxSteps := 1000000) [hF]; (try subst hK); try (refine VS.keep [2, 7, 8, 9, 49] ?_; generalize hK : VS _ _ _ = KK; simp; (try subst hK)))
        | (refine VS.keepAt 8 [2, 7, 8, 9] ?_; generalize hK : VS _ _ _ = KK; (try simp); (try subst hK); refine VS.region tabOk (id := 8) [] (by kernel_rfl) ?_; generalize hK : VS _ _ _ = KK; simp (maxSteps := 1000000) [hF]; (try subst hK); try (refine VS.keep [2, 7, 8, 9, 11] ?_; generalize hK : VS _ _ _ = KK; simp; (try subst hK)))
        | (refine VS.cond ?_; generalize hK1 : VS _ _ _ = KK1; generalize hK2 : VS _ _ _ = KK2; simp (maxSteps := 1000000) [hF]; (try subst hK1); (try subst hK2))
      refine (names1_yes S1 hwf1 (by omega) j b1).call [(0, [])] (by simp) (by simp (maxSteps := 1000000) [hF, dSp, obAt_eq hj1, a1]) (by simp (maxSteps := 1000000) [hF, dSp, obAt_eq hj1, a1]) (by simp (maxSteps := 1000000) [hF, dSp, obAt_eq hj1, a1]) ?_
      rintro av X κ ⟨rfl, rfl, rfl⟩
      generalize hK : VS _ _ _ = KK; simp (maxSteps := 1000000) [hF, dSp, obAt_eq hj1, a1]; (try subst hK)
      repeat first
        | refine VS.seq ?_
        | (refine VS.keepAt 9 [2, 7, 8, 9, 11] ?_; generalize hK : VS _ _ _ = KK; (try simp); (try subst hK); refine VS.region tabOk (id := 9) [] (by kernel_rfl) ?_; generalize hK : VS _ _ _ = KK; simp (maxSteps := 1000000) [hF]; (try subst hK); try (refine VS.keep [2, 7, 8, 9, 11, 13] ?_; generalize hK : VS _ _ _ = KK; simp; (try subst hK)))
      refine (names1_yes S1 hwf1 (by omega) c b2).call [(0, [])] (by simp) (by simp (maxSteps := 1000000) [hF, dSp, obAt_eq hc1, a2]) (by simp (maxSteps := 1000000) [hF, dSp, obAt_eq hc1, a2]) (by simp (maxSteps := 1000000) [hF, dSp, obAt_eq hc1, a2]) ?_
      rintro av X κ ⟨rfl, rfl, rfl⟩
      generalize hK : VS _ _ _ = KK; simp (maxSteps := 1000000) [hF, dSp, obAt_eq hc1, a2]; (try subst hK)
      repeat first
        | refine VS.seq ?_
        | (refine VS.keepAt 10 [2, 7, 8, 9, 11, 13] ?_; generalize hK : VS _ _ _ = KK; (try simp); (try subst hK); refine VS.region tabOk (id := 10) [] (by kernel_rfl) ?_; generalize hK : VS _ _ _ = KK; simp (maxSteps := 1000000) [hF]; (try subst hK); try (refine VS.keep [2, 7, 8, 9, 11, 13, 15] ?_; generalize hK : VS _ _ _ = KK; simp; (try subst hK)))
      refine (shape_ok S1 j).call [(0, [])] (by simp) (by simp (maxSteps := 1000000) [hF, dSp, s1]) (by simp (maxSteps := 1000000) [hF, dSp, s1]) (by simp (maxSteps := 1000000) [hF, dSp, s1]) ?_
      rintro av X κ ⟨rfl, rfl, rfl⟩
      generalize hK : VS _ _ _ = KK; simp (maxSteps := 1000000) [hF, dSp, s1]; (try subst hK)
      repeat first
        | refine VS.seq ?_
        | (refine VS.keepAt 11 [2, 7, 8, 9, 11, 13, 15] ?_; generalize hK : VS _ _ _ = KK; (try simp); (try subst hK); refine VS.region tabOk (id := 11) [] (by kernel_rfl) ?_; generalize hK : VS _ _ _ = KK; simp (maxSteps := 1000000) [hF]; (try subst hK); try (refine VS.keep [2, 7, 8, 9, 11, 13, 15, 17] ?_; generalize hK : VS _ _ _ = KK; simp; (try subst hK)))
      refine (shape_ok S1 c).call [(0, [])] (by simp) (by simp (maxSteps := 1000000) [hF, dSp, s2]) (by simp (maxSteps := 1000000) [hF, dSp, s2]) (by simp (maxSteps := 1000000) [hF, dSp, s2]) ?_
      rintro av X κ ⟨rfl, rfl, rfl⟩
      generalize hK : VS _ _ _ = KK; simp (maxSteps := 1000000) [hF, dSp, s2]; (try subst hK)
      repeat first
        | refine VS.seq ?_
        | (refine VS.keepAt 12 [2, 7, 8, 9, 11, 13, 15, 17] ?_; generalize hK : VS _ _ _ = KK; (try simp); (try subst hK); refine VS.region tabOk (id := 12) [] (by kernel_rfl) ?_; generalize hK : VS _ _ _ = KK; simp (maxSteps := 1000000) [hF]; (try subst hK); try (refine VS.keep [2, 7, 8, 9, 11, 13, 15, 17, 19] ?_; generalize hK : VS _ _ _ = KK; simp; (try subst hK)))
      refine (frozen_ok S1 c).call [(0, [])] (by simp) (by simp (maxSteps := 1000000) [hF, dSp, f2]) (by simp (maxSteps := 1000000) [hF, dSp, f2]) (by simp (maxSteps := 1000000) [hF, dSp, f2]) ?_
      rintro av X κ ⟨rfl, rfl, rfl⟩
      generalize hK : VS _ _ _ = KK; simp (maxSteps := 1000000) [hF, dSp, f2]; (try subst hK)
      repeat first
        | refine VS.seq ?_
        | (refine VS.keepAt 13 [2, 7, 8, 9, 11, 13, 15, 17, 19] ?_; generalize hK : VS _ _ _ = KK; (try simp); (try subst hK); refine VS.region tabOk (id := 13) [(4, 85), (9, 90)] (by kernel_rfl) ?_; generalize hK : VS _ _ _ = KK; simp (maxSteps := 1000000) [hF]; (try subst hK); try (refine VS.keep [2, 7, 8, 9, 11, 92] ?_; generalize hK : VS _ _ _ = KK; simp; (try subst hK)))
      refine (same_ok true true false false S.objs[j].names S.objs[j].names (by omega)).call [(1, []), (2, [])] (by simp) (by simp (maxSteps := 1000000) [hF]) (by simp (maxSteps := 1000000) [hF]) (by simp (maxSteps := 1000000) [hF]) ?_
      rintro av X κ ⟨rfl, rfl, rfl⟩
      generalize hK : VS _ _ _ = KK; simp (maxSteps := 1000000) [hF]; (try subst hK)
      have hww : ∀ i (hi : i < S.objs[j].names.length), i < S.objs[j].words.length := fun i hi => by omega
      have g2 : ∀ i (hi : i < S.objs[j].names.length), ∃ h : i < S.objs[j].words.length, getOf S1 c S.objs[j].names[i] = (S.objs[j].words[i], 0) := fun i hi => by
        have := get_at hwf1 hgood1 hc1 (i := i) (by rw [a2]; exact hi) hpos1
        simpa only [a2] using this
      repeat first
        | refine VS.seq ?_
        | refine VS.skip ?_
        | refine VS.block ?_
        | (refine VS.keepAt 15 [2, 7, 8, 9, 11] ?_; generalize hK : VS _ _ _ = KK; (try simp); (try subst hK); refine VS.region tabOk (id := 15) [] (by kernel_rfl) ?_; generalize hK : VS _ _ _ = KK; simp (maxSteps := 1000000) [hF]; (try subst hK); try (refine VS.keep [2, 7, 8, 9, 11, 21] ?_; generalize hK : VS _ _ _ = KK; simp; (try subst hK)))
        | (refine VS.keepAt 16 [2, 7, 8, 9, 11, 21] ?_; generalize hK : VS _ _ _ = KK; (try simp); (try subst hK); refine VS.region tabOk (id := 16) [] (by kernel_rfl) ?_; generalize hK : VS _ _ _ = KK; simp (maxSteps := 1000000) [hF]; (try subst hK); try (refine VS.keep [2, 7, 8, 9, 11, 21, 22] ?_; generalize hK : VS _ _ _ = KK; simp; (try subst hK)))
        | (refine VS.cond ?_; generalize hK1 : VS _ _ _ = KK1; generalize hK2 : VS _ _ _ = KK2; simp (maxSteps := 1000000) [hF]; (try subst hK1); (try subst hK2))
      refine VS.hold0 21 1 (by simp) ?_
      refine VS.pick [2, 7, 8, 9, 11, 21, 22] [0, 1, 2, 3] (by simp [hF]) ?_
      generalize hK : VS _ _ _ = KK; simp [hF]; (try subst hK)
      refine VS.rounds (fun m st => ∃ (i : Nat), i + m = S.objs[j].names.length ∧
        st = ⟨[(2, .imm 4 (dDeeds more) ex2), (7, .ptr 0 [.d]), (8, avInt j), (9, avInt c), (11, .sub 1 [] 0 S.objs[j].names.length false), (21, .sub 3 [] 0 i false), (22, avInt i)],
          [dSp S1, .sl true () 1 (dStrs S.objs[j].names), .sl true () 1 (dStrs S.objs[j].names), .sl true () 1 (dInts (S.objs[j].words.take i))], [], []⟩) ⟨S.objs[j].names.length, 0, by omega, by simp [dSp, dInts_nil]⟩ ?_
      rintro m st ⟨i, him, rfl⟩
      repeat first
        | refine VS.seq ?_
        | (refine VS.keepAt 17 [2, 7, 8, 9, 11, 21, 22] ?_; generalize hK : VS _ _ _ = KK; (try simp); (try subst hK); refine VS.region tabOk (id := 17) [] (by kernel_rfl) ?_; generalize hK : VS _ _ _ = KK; simp (maxSteps := 1000000) [hF]; (try subst hK); try (refine VS.keep [2, 7, 8, 9, 11, 21, 22, 96] ?_; generalize hK : VS _ _ _ = KK; simp; (try subst hK)))
        | (refine VS.cond ?_; generalize hK1 : VS _ _ _ = KK1; generalize hK2 : VS _ _ _ = KK2; simp (maxSteps := 1000000) [hF]; (try subst hK1); (try subst hK2))
      refine ⟨fun hlt => ?_, fun hge => ?_⟩
      · have hi : i < S.objs[j].names.length := by omega
        obtain ⟨hw, hg1⟩ := g1 i hi
        obtain ⟨_, hg2⟩ := g2 i hi
        have hn1 := dStrs_nth hi
        have htk : S.objs[j].words.take (i + 1) = S.objs[j].words.take i ++ [S.objs[j].words[i]] := by rw [List.take_add_one, List.getElem?_eq_getElem hw]; rfl
        have hlk : (S.objs[j].words.take i).length = i := by simp; omega
        have hmid := dInts_app1 (S.objs[j].words.take i) S.objs[j].words[i]
        have hmid0 : (dInts (S.objs[j].words.take i)).mid 0 i = dInts (S.objs[j].words.take i) := sq_mid_all _ _ (by simp; omega)
        repeat first
          | refine VS.seq ?_
          | refine VS.skip ?_
          | refine VS.block ?_
          | (refine VS.keepAt 19 [2, 7, 8, 9, 11, 21, 22] ?_; generalize hK : VS _ _ _ = KK; (try simp); (try subst hK); refine VS.region tabOk (id := 19) [] (by kernel_rfl) ?_; generalize hK : VS _ _ _ = KK; simp (maxSteps := 1000000) [hF, hi, hn1]; (try subst hK); try (refine VS.keep [2, 7, 8, 9, 11, 21, 22, 23] ?_; generalize hK : VS _ _ _ = KK; simp; (try subst hK)))
        refine (get_ok S1 hwf1 (by omega) j S.objs[j].names[i]).call [(0, [])] (by simp) (by simp (maxSteps := 1000000) [hF, dSp, hg1]) (by simp (maxSteps := 1000000) [hF, dSp, hg1]) (by simp (maxSteps := 1000000) [hF, dSp, hg1]) ?_
        rintro av X κ ⟨rfl, rfl, rfl⟩
        generalize hK : VS _ _ _ = KK; simp (maxSteps := 1000000) [hF, dSp, hg1]; (try subst hK)
        repeat first
          | refine VS.seq ?_
          | (refine VS.keepAt 20 [2, 7, 8, 9, 11, 21, 22, 23] ?_; generalize hK : VS _ _ _ = KK; (try simp); (try subst hK); refine VS.region tabOk (id := 20) [] (by kernel_rfl) ?_; generalize hK : VS _ _ _ = KK; simp (maxSteps := 1000000) [hF, hi, hn1]; (try subst hK); try (refine VS.keep [2, 7, 8, 9, 11, 21, 22, 23, 25, 26] ?_; generalize hK : VS _ _ _ = KK; simp; (try subst hK)))
        refine (get_ok S1 hwf1 (by omega) c S.objs[j].names[i]).call [(0, [])] (by simp) (by simp (maxSteps := 1000000) [hF, dSp, hg2]) (by simp (maxSteps := 1000000) [hF, dSp, hg2]) (by simp (maxSteps := 1000000) [hF, dSp, hg2]) ?_
        rintro av X κ ⟨rfl, rfl, rfl⟩
        generalize hK : VS _ _ _ = KK; simp (maxSteps := 1000000) [hF, dSp, hg2]; (try subst hK)
        repeat first
          | refine VS.seq ?_
          | refine VS.skip ?_
          | refine VS.nil ?_
          | refine blockN_normal ?_
          | refine loopN_normal ?_
          | refine ⟨⟨by omega, by omega⟩, ?_⟩
          | (refine VS.keepAt 18 [2, 7, 8, 9, 11, 21, 22] ?_; generalize hK : VS _ _ _ = KK; (try simp); (try subst hK); refine VS.region tabOk (id := 18) [] (by kernel_rfl) ?_; generalize hK : VS _ _ _ = KK; simp (maxSteps := 1000000) [hF, hmid, hmid0, hlk]; (try subst hK); try (refine VS.keep [2, 7, 8, 9, 11, 21, 22] ?_; generalize hK : VS _ _ _ = KK; simp; (try subst hK)))
          | (refine VS.keepAt 21 [2, 7, 8, 9, 11, 21, 22, 23, 25, 26] ?_; generalize hK : VS _ _ _ = KK; (try simp); (try subst hK); refine VS.region tabOk (id := 21) [(2, 121)] (by kernel_rfl) ?_; generalize hK : VS _ _ _ = KK; simp (maxSteps := 1000000) [hF, hmid, hmid0, hlk]; (try subst hK); try (refine VS.keep [2, 7, 8, 9, 11, 21, 22, 23, 125] ?_; generalize hK : VS _ _ _ = KK; simp; (try subst hK)))
          | (refine VS.keepAt 23 [2, 7, 8, 9, 11, 21, 22, 23] ?_; generalize hK : VS _ _ _ = KK; (try simp); (try subst hK); refine VS.region tabOk (id := 23) [] (by kernel_rfl) ?_; generalize hK : VS _ _ _ = KK; simp (maxSteps := 1000000) [hF, hmid, hmid0, hlk]; (try subst hK); try (refine VS.keep [2, 7, 8, 9, 11, 21, 22] ?_; generalize hK : VS _ _ _ = KK; simp; (try subst hK)))
          | (refine VS.cond ?_; generalize hK1 : VS _ _ _ = KK1; generalize hK2 : VS _ _ _ = KK2; simp (maxSteps := 1000000) [hF, hmid, hmid0, hlk]; (try subst hK1); (try subst hK2))
        refine nextK.of [2, 7, 8, 9, 11, 21, 22] [0, 1, 2, 3] (m - 1) (by omega) (by simp [hF]) ?_
        refine ⟨i + 1, by omega, ?_⟩
        rw [htk]
        simp [dSp]
        exact IntWalk.i64_in _ (by omega)
      · have hie : i = S.objs[j].names.length := by omega
        subst hie
        have htk : S.objs[j].words.take S.objs[j].names.length = S.objs[j].words := by rw [← hwl]; simp
        simp only [htk]
        repeat first
          | refine VS.seq ?_
          | refine VS.block ?_
          | refine VS.exit ?_
          | (refine VS.keepAt 24 [2, 7, 8, 9, 11, 21] ?_; generalize hK : VS _ _ _ = KK; (try simp); (try subst hK); refine VS.region tabOk (id := 24) [] (by kernel_rfl) ?_; generalize hK : VS _ _ _ = KK; simp (maxSteps := 1000000) [hF]; (try subst hK); try (refine VS.keep [2, 7, 8, 9, 11, 21, 27] ?_; generalize hK : VS _ _ _ = KK; simp; (try subst hK)))
        refine VS.rounds (fun m' st => ∃ (i : Nat) (S2 : Sp), i + m' = more.length ∧ WF S2 (400 + i) ∧ Good S2 ∧ 0 < S2.shapes.length ∧ S2.objs[c]? = S1.objs[c]? ∧
          st = ⟨[(2, .imm 4 (dDeeds more) ex2), (7, .ptr 0 [.d]), (8, avInt j), (9, avInt c), (11, .sub 1 [] 0 S.objs[j].names.length false), (21, .sub 3 [] 0 S.objs[j].names.length false), (27, avInt i)],
            [dSp S2, .sl true () 1 (dStrs S.objs[j].names), .sl true () 1 (dStrs S.objs[j].names), .sl true () 1 (dInts S.objs[j].words)], [], []⟩) ⟨more.length, 0, S1, by omega, hwf1, hgood1, hpos1, rfl, by simp [dSp]⟩ ?_
        rintro m' st ⟨i, S2, him', hwf2, hgood2, hpos2, hc2, rfl⟩
        have hc2l : c < S2.objs.length := by
          rw [List.getElem?_eq_getElem hc1] at hc2
          exact (List.getElem?_eq_some_iff.1 hc2).1
        have e2 : S2.objs[c] = { S.objs[j] with frozen := false } := by
          rw [List.getElem?_eq_getElem hc1, List.getElem?_eq_getElem hc2l] at hc2
          exact (Option.some.inj hc2).trans a2
        have b3 : hasB S2 c = true := by simp [hasB]; omega
        have g3 : ∀ i (hi : i < S.objs[j].names.length), ∃ h : i < S.objs[j].words.length, getOf S2 c S.objs[j].names[i] = (S.objs[j].words[i], 0) := fun i hi => by
          have := get_at hwf2 hgood2 hc2l (i := i) (by rw [e2]; exact hi) hpos2
          simpa only [e2] using this
        repeat first
          | refine VS.seq ?_
          | (refine VS.keepAt 25 [2, 7, 8, 9, 11, 21, 27] ?_; generalize hK : VS _ _ _ = KK; (try simp); (try subst hK); refine VS.region tabOk (id := 25) [] (by kernel_rfl) ?_; generalize hK : VS _ _ _ = KK; simp (maxSteps := 1000000) [hF]; (try subst hK); try (refine VS.keep [2, 7, 8, 9, 11, 21, 27, 133] ?_; generalize hK : VS _ _ _ = KK; simp; (try subst hK)))
          | (refine VS.cond ?_; generalize hK1 : VS _ _ _ = KK1; generalize hK2 : VS _ _ _ = KK2; simp (maxSteps := 1000000) [hF]; (try subst hK1); (try subst hK2))
        refine ⟨fun hlt2 => ?_, fun hge2 => ?_⟩
        · have hi2 : i < more.length := by omega
          have hn2 := dDeeds_nth hi2
          repeat first
            | refine VS.seq ?_
            | refine VS.skip ?_
            | refine VS.block ?_
            | (refine VS.keepAt 27 [2, 7, 8, 9, 11, 21, 27] ?_; generalize hK : VS _ _ _ = KK; (try simp); (try subst hK); refine VS.region tabOk (id := 27) [] (by kernel_rfl) ?_; generalize hK : VS _ _ _ = KK; simp (maxSteps := 1000000) [hF, hi2, hn2]; (try subst hK); try (refine VS.keep [2, 7, 8, 9, 11, 21, 27, 28] ?_; generalize hK : VS _ _ _ = KK; simp; (try subst hK)))
          refine (small_ok more[i]).call [] (by simp) (by simp (maxSteps := 1000000) [hF, avDeed]) (by simp (maxSteps := 1000000) [hF, avDeed]) (by simp (maxSteps := 1000000) [hF, avDeed]) ?_
          rintro av X κ ⟨rfl, rfl, rfl⟩
          generalize hK : VS _ _ _ = KK; simp (maxSteps := 1000000) [hF, avDeed]; (try subst hK)
          repeat first
            | refine VS.seq ?_
            | (refine VS.keepAt 28 [2, 7, 8, 9, 11, 21, 27, 28] ?_; generalize hK : VS _ _ _ = KK; (try simp); (try subst hK); refine VS.region tabOk (id := 28) [] (by kernel_rfl) ?_; generalize hK : VS _ _ _ = KK; simp (maxSteps := 1000000) [hF]; (try subst hK); try (refine VS.keep [2, 7, 8, 9, 11, 21, 27, 28] ?_; generalize hK : VS _ _ _ = KK; simp; (try subst hK)))
            | (refine VS.keepAt 29 [2, 7, 8, 9, 11, 21, 27, 28] ?_; generalize hK : VS _ _ _ = KK; (try simp); (try subst hK); refine VS.region tabOk (id := 29) [] (by kernel_rfl) ?_; generalize hK : VS _ _ _ = KK; simp (maxSteps := 1000000) [hF]; (try subst hK); try (refine VS.keep [2, 7, 8, 9, 11, 21, 27] ?_; generalize hK : VS _ _ _ = KK; simp; (try subst hK)))
          refine (do_ok S2 hwf2 (by omega) ⟨(smallOf more[i]).op, j, (smallOf more[i]).name, (smallOf more[i]).word⟩).call [(0, [])] (by simp) (by simp (maxSteps := 1000000) [hF, dSp, avDeed]) (by simp (maxSteps := 1000000) [hF, dSp, avDeed]) (by simp (maxSteps := 1000000) [hF, dSp, avDeed]) ?_
          rintro av X κ ⟨rfl, rfl, rfl⟩
          generalize hK : VS _ _ _ = KK; simp (maxSteps := 1000000) [hF, dSp, avDeed]; (try subst hK)
          repeat first
            | refine VS.nil ?_
            | refine blockN_normal ?_
            | refine loopN_normal ?_
            | (refine VS.keepAt 26 [2, 7, 8, 9, 11, 21, 27] ?_; generalize hK : VS _ _ _ = KK; (try simp); (try subst hK); refine VS.region tabOk (id := 26) [] (by kernel_rfl) ?_; generalize hK : VS _ _ _ = KK; simp (maxSteps := 1000000) [hF]; (try subst hK); try (refine VS.keep [2, 7, 8, 9, 11, 21, 27] ?_; generalize hK : VS _ _ _ = KK; simp; (try subst hK)))
          refine nextK.of [2, 7, 8, 9, 11, 21, 27] [0, 1, 2, 3] (m' - 1) (by omega) (by simp [hF]) ?_
          refine ⟨i + 1, (doOf S2 ⟨(smallOf more[i]).op, j, (smallOf more[i]).name, (smallOf more[i]).word⟩).1, by omega, (doOf_wf hwf2 hpos2 _).1, doOf_good hwf2 hgood2 _, (doOf_wf hwf2 hpos2 _).2, ?_, ?_⟩
          · rw [doOf_other hwf2 _ hc2l (by simp only; omega)]; exact hc2
          · simp [dSp]
            exact IntWalk.i64_in _ (by omega)
        · repeat first
            | refine VS.seq ?_
            | refine VS.exit ?_
            | (refine VS.keepAt 30 [7, 9, 11, 21] ?_; generalize hK : VS _ _ _ = KK; (try simp); (try subst hK); refine VS.region tabOk (id := 30) [] (by kernel_rfl) ?_; generalize hK : VS _ _ _ = KK; simp (maxSteps := 1000000) [hF]; (try subst hK); try (refine VS.keep [7, 9, 11, 13, 21] ?_; generalize hK : VS _ _ _ = KK; simp; (try subst hK)))
          refine (names1_yes S2 hwf2 (by omega) c b3).call [(0, [])] (by simp) (by simp (maxSteps := 1000000) [hF, dSp, obAt_eq hc2l, e2]) (by simp (maxSteps := 1000000) [hF, dSp, obAt_eq hc2l, e2]) (by simp (maxSteps := 1000000) [hF, dSp, obAt_eq hc2l, e2]) ?_
          rintro av X κ ⟨rfl, rfl, rfl⟩
          generalize hK : VS _ _ _ = KK; simp (maxSteps := 1000000) [hF, dSp, obAt_eq hc2l, e2]; (try subst hK)
          repeat first
            | refine VS.seq ?_
            | refine VS.block ?_
            | (refine VS.keepAt 31 [7, 9, 11, 13, 21] ?_; generalize hK : VS _ _ _ = KK; (try simp); (try subst hK); refine VS.region tabOk (id := 31) [] (by kernel_rfl) ?_; generalize hK : VS _ _ _ = KK; simp (maxSteps := 1000000) [hF]; (try subst hK); try (refine VS.keep [7, 9, 11, 13, 21, 29] ?_; generalize hK : VS _ _ _ = KK; simp; (try subst hK)))
          refine VS.rounds (fun m' st => ∃ (i : Nat), i + m' = S.objs[j].names.length ∧
            st = ⟨[(7, .ptr 0 [.d]), (9, avInt c), (11, .sub 1 [] 0 S.objs[j].names.length false), (13, .sub 4 [] 0 S.objs[j].names.length false), (21, .sub 3 [] 0 S.objs[j].names.length false), (29, avInt i)],
              [dSp S2, .sl true () 1 (dStrs S.objs[j].names), .sl true () 1 (dStrs S.objs[j].names), .sl true () 1 (dInts S.objs[j].words), .sl true () 1 (dStrs S.objs[j].names)], [], []⟩) ⟨S.objs[j].names.length, 0, by omega, by simp [dSp]⟩ ?_
          rintro m2 st ⟨i, him2, rfl⟩
          repeat first
            | refine VS.seq ?_
            | (refine VS.keepAt 32 [7, 9, 11, 13, 21, 29] ?_; generalize hK : VS _ _ _ = KK; (try simp); (try subst hK); refine VS.region tabOk (id := 32) [] (by kernel_rfl) ?_; generalize hK : VS _ _ _ = KK; simp (maxSteps := 1000000) [hF]; (try subst hK); try (refine VS.keep [7, 9, 11, 13, 21, 29, 155] ?_; generalize hK : VS _ _ _ = KK; simp; (try subst hK)))
            | (refine VS.cond ?_; generalize hK1 : VS _ _ _ = KK1; generalize hK2 : VS _ _ _ = KK2; simp (maxSteps := 1000000) [hF]; (try subst hK1); (try subst hK2))
          refine ⟨fun hlt3 => ?_, fun hge3 => ?_⟩
          · have hi3 : i < S.objs[j].names.length := by omega
            have hn3 := dStrs_nth hi3
            obtain ⟨hw3, hg3⟩ := g3 i hi3
            have hn4 := dInts_nth hw3
            repeat first
              | refine VS.seq ?_
              | refine VS.skip ?_
              | refine VS.block ?_
              | (refine VS.keepAt 34 [7, 9, 11, 13, 21, 29] ?_; generalize hK : VS _ _ _ = KK; (try simp); (try subst hK); refine VS.region tabOk (id := 34) [] (by kernel_rfl) ?_; generalize hK : VS _ _ _ = KK; simp (maxSteps := 1000000) [hF, hi3, hn3]; (try subst hK); try (refine VS.keep [7, 9, 11, 13, 21, 29, 30] ?_; generalize hK : VS _ _ _ = KK; simp; (try subst hK)))
            refine (get_ok S2 hwf2 (by omega) c S.objs[j].names[i]).call [(0, [])] (by simp) (by simp (maxSteps := 1000000) [hF, dSp, hg3]) (by simp (maxSteps := 1000000) [hF, dSp, hg3]) (by simp (maxSteps := 1000000) [hF, dSp, hg3]) ?_
            rintro av X κ ⟨rfl, rfl, rfl⟩
            generalize hK : VS _ _ _ = KK; simp (maxSteps := 1000000) [hF, dSp, hg3]; (try subst hK)
            repeat first
              | refine VS.seq ?_
              | refine VS.skip ?_
              | refine VS.nil ?_
              | refine blockN_normal ?_
              | refine loopN_normal ?_
              | (refine VS.keepAt 33 [7, 9, 11, 13, 21, 29] ?_; generalize hK : VS _ _ _ = KK; (try simp); (try subst hK); refine VS.region tabOk (id := 33) [] (by kernel_rfl) ?_; generalize hK : VS _ _ _ = KK; simp (maxSteps := 1000000) [hF, hi3, hw3, hn3, hn4, hwl]; (try subst hK); try (refine VS.keep [7, 9, 11, 13, 21, 29] ?_; generalize hK : VS _ _ _ = KK; simp; (try subst hK)))
              | (refine VS.keepAt 35 [7, 9, 11, 13, 21, 29, 30] ?_; generalize hK : VS _ _ _ = KK; (try simp); (try subst hK); refine VS.region tabOk (id := 35) [] (by kernel_rfl) ?_; generalize hK : VS _ _ _ = KK; simp (maxSteps := 1000000) [hF, hi3, hw3, hn3, hn4, hwl]; (try subst hK); try (refine VS.keep [7, 9, 11, 13, 21, 29, 173] ?_; generalize hK : VS _ _ _ = KK; simp; (try subst hK)))
              | (refine VS.cond ?_; generalize hK1 : VS _ _ _ = KK1; generalize hK2 : VS _ _ _ = KK2; simp (maxSteps := 1000000) [hF, hi3, hw3, hn3, hn4, hwl]; (try subst hK1); (try subst hK2))
            refine nextK.of [7, 9, 11, 13, 21, 29] [0, 1, 2, 3, 4] (m2 - 1) (by omega) (by simp [hF]) ?_
            refine ⟨i + 1, by omega, ?_⟩
            simp [dSp]
            exact IntWalk.i64_in _ (by omega)
          · repeat first
              | refine VS.seq ?_
              | refine VS.exit ?_
              | (refine VS.keepAt 37 [11, 13] ?_; generalize hK : VS _ _ _ = KK; (try simp); (try subst hK); refine VS.region tabOk (id := 37) [(3, 177)] (by kernel_rfl) ?_; generalize hK : VS _ _ _ = KK; simp (maxSteps := 1000000) [hF]; (try subst hK); try (refine VS.keep [6] ?_; generalize hK : VS _ _ _ = KK; simp; (try subst hK)))
            refine (same_ok true true false false S.objs[j].names S.objs[j].names (by omega)).call [(1, []), (4, [])] (by simp) (by simp (maxSteps := 1000000) [hF]) (by simp (maxSteps := 1000000) [hF]) (by simp (maxSteps := 1000000) [hF]) ?_
            rintro av X κ ⟨rfl, rfl, rfl⟩
            generalize hK : VS _ _ _ = KK; simp (maxSteps := 1000000) [hF]; (try subst hK)
            refine (sane_ok).call [] (by simp) (by simp (maxSteps := 1000000) [hF]) (by simp (maxSteps := 1000000) [hF]) (by simp (maxSteps := 1000000) [hF]) ?_
            rintro av X κ ⟨rfl, rfl, rfl⟩
            generalize hK : VS _ _ _ = KK; simp (maxSteps := 1000000) [hF]; (try subst hK)
            try refine VS.ret ?_
            repeat first | refine blockN_ret ?_ | refine loopN_ret ?_
            refine endK.of [6] [] [] (by simp [hF]) (by simp [covers, mpre]) ?_
            simp [hF, retK]
end Go.Proofs.Ythcndkpkkaphoaa

/- From what a row's argument reads as to trees that cannot change. -/
namespace Go.Vc
set_option linter.all false
open T (hdr blk)

/-- The blocks that are there. -/
abbrev allB (w : World) : Nat → Prop := fun b => b < w.heap.size

/-- What a reading of a type shows: a tree that cannot change, of 'z' cells, with such a content. -/
def Reads (P : Program) (t : TypeId) (z : Nat) (good : D → Prop) : Prop :=
  ∀ (H : Type) (enc : TypeId × Value → H) (w : World) (fuel : Nat) (cs : List Value) (x : DataW H × List MemPlace), DataW.trod enc P w 0 (fun _ => true) true fuel t cs = some x →
    ∃ g : G, T.Holds w.heap (allB w) g ∧ g.free = true ∧ g.cells = cs ∧ g.width = z ∧ good g.erase

theorem reads_int {P : Program} {t : TypeId} {k : IntKind} (ht : P.underlying t = some (.int k)) : Reads P t 1 fun d => ∃ n, d = .val (.int k n) := fun H enc w fuel cs x h => by
  obtain ⟨n, rfl, _, _⟩ := DataW.trod_int ht h
  exact ⟨.val (.int k n), rfl, rfl, rfl, rfl, n, rfl⟩
theorem reads_str {P : Program} {t : TypeId} (ht : P.underlying t = some .string) : Reads P t 1 fun d => ∃ s, d = .val (.string s) := fun H enc w fuel cs x h => by
  obtain ⟨s, rfl, _, _⟩ := DataW.trod_string ht h
  exact ⟨.val (.string s), rfl, rfl, rfl, rfl, s, rfl⟩
theorem reads_bool {P : Program} {t : TypeId} (ht : P.underlying t = some .bool) : Reads P t 1 fun d => ∃ b, d = .val (.bool b) := fun H enc w fuel cs x h => by
  obtain ⟨b, rfl, _⟩ := DataW.trod_bool ht h
  exact ⟨.val (.bool b), rfl, rfl, rfl, rfl, b, rfl⟩

/-- The fields of a struct, one behind the other. -/
def FieldsRead (P : Program) : List Field → List (Nat × (D → Prop)) → Nat → Prop
  | [], [], _ => True
  | f :: fs, (z, good) :: r, o => Reads P f.type z good ∧ P.cellsOf f.type = z ∧ f.offset = o ∧ FieldsRead P fs r (o + z)
  | _, _, _ => False
def fieldsGood : List (Nat × (D → Prop)) → D → Prop
  | [], d => d = .nil
  | (_, good) :: r, d => ∃ a t, d = .cons a t ∧ good a ∧ fieldsGood r t
def fieldsSize : List (Nat × (D → Prop)) → Nat
  | [] => 0
  | (z, _) :: r => z + fieldsSize r

theorem reads_struct {P : Program} {t : TypeId} {fs : Array Field} (ht : P.underlying t = some (.struct fs)) {gs : List (Nat × (D → Prop))} (hf : FieldsRead P fs.toList gs 0) (hz : P.cellsOf t = fieldsSize gs) :
    Reads P t (fieldsSize gs) fun d => ∃ s, d = .agg s ∧ fieldsGood gs s := fun H enc w fuel cs x h => by
  obtain ⟨xs, n, _, _, hl, hlen, he⟩ := DataW.trod_struct ht h
  have each : ∀ f ∈ fs.toList, ∃ y, DataW.trod enc P w 0 (fun _ => true) true n f.type ((cs.drop f.offset).take (P.cellsOf f.type)) = some y := fun f hm => by
    obtain ⟨i, hi, rfl⟩ := List.getElem_of_mem hm
    have h1 := he i fs[i] (by simp at hi; simp [hi])
    rw [List.getElem?_eq_getElem (by simp at hi; omega)] at h1
    exact ⟨_, h1⟩
  have key : ∀ (l : List Field) (gs : List (Nat × (D → Prop))) (o : Nat), FieldsRead P l gs o → (∀ f ∈ l, f ∈ fs.toList) → cs.length = o + fieldsSize gs →
      ∃ s : G, T.Holds w.heap (allB w) s ∧ s.free = true ∧ s.cells = cs.drop o ∧ s.width = fieldsSize gs ∧ fieldsGood gs s.erase := by
    intro l
    induction l with
    | nil =>
      intro gs o h1 _ h2
      cases gs with
      | nil => exact ⟨.nil, trivial, rfl, by simp only [fieldsSize] at h2; simp [T.cells, h2], rfl, rfl⟩
      | cons _ _ => exact h1.elim
    | cons f l ih =>
      intro gs o h1 hm h2
      cases gs with
      | nil => exact h1.elim
      | cons p r =>
        obtain ⟨z, good⟩ := p
        obtain ⟨k1, k2, k3, k4⟩ := h1
        simp only [fieldsSize] at h2
        obtain ⟨s, s1, s2, s3, s4, s5⟩ := ih r (o + z) k4 (fun f hf => hm f (by simp [hf])) (by omega)
        obtain ⟨y, hy⟩ := each f (hm f (by simp))
        obtain ⟨g, g1, g2, g3, g4, g5⟩ := k1 H enc w n _ y hy
        refine ⟨.cons g s, ⟨g1, s1⟩, by simp [T.free, g2, s2], ?_, by simp [T.width, g4, s4, fieldsSize], _, _, rfl, g5, s5⟩
        simp only [T.cells, g3, s3, k2, k3]
        rw [← List.drop_drop, List.take_append_drop]
  obtain ⟨s, s1, s2, s3, s4, s5⟩ := key fs.toList gs 0 hf (fun _ h => h) (by rw [hl, hz]; omega)
  exact ⟨.agg s, s1, s2, by simpa [T.cells] using s3, s4, _, rfl, s5⟩

theorem erase_agg {g : G} {s : D} (h : g.erase = .agg s) : ∃ s', g = .agg s' ∧ s'.erase = s := by
  cases g <;> simp only [T.erase] at h <;> cases h
  exact ⟨_, rfl, rfl⟩
theorem erase_cons {g : G} {a t : D} (h : g.erase = .cons a t) : ∃ a' t', g = .cons a' t' ∧ a'.erase = a ∧ t'.erase = t := by
  cases g <;> simp only [T.erase] at h <;> cases h
  exact ⟨_, _, rfl, rfl, rfl⟩
theorem erase_val {g : G} {v : Value} (h : g.erase = .val v) : g = .val v := by
  cases g <;> simp only [T.erase] at h <;> cases h
  rfl
theorem erase_nil {g : G} (h : g.erase = .nil) : g = .nil := by
  cases g <;> simp only [T.erase] at h <;> cases h
  rfl

theorem map_of {α β : Type} {f : β → α} : ∀ {l : List α}, (∀ x ∈ l, ∃ y, x = f y) → ∃ ys : List β, l = ys.map f
  | [], _ => ⟨[], rfl⟩
  | x :: l, h => by
    obtain ⟨y, hy⟩ := h x (by simp)
    obtain ⟨ys, hys⟩ := map_of (l := l) (f := f) fun x hx => h x (List.mem_cons_of_mem _ hx)
    exact ⟨y :: ys, by rw [hy, hys]; rfl⟩

theorem cells?_at {w : World} {a : Addr} {n : Nat} {cs : List Value} (h : w.cells? 0 a n = some cs) : cs.length = n ∧ ∀ r v, cs[r]? = some v → w.cell? (a.add r) = some v := by
  obtain ⟨_, h1, h2⟩ := World.cells?_some h
  refine ⟨h1, fun r v hv => ?_⟩
  have hr : r < n := by rw [← h1]; exact (List.getElem?_eq_some_iff.1 hv).1
  have := h2 r hr
  rw [this, hv]

/-- The elements of a slice, one behind the other. -/
theorem reads_elems {P : Program} {e : TypeId} {z : Nat} {good : D → Prop} (he : Reads P e z good) {H : Type} {enc : TypeId × Value → H} {w : World} {n : Nat} {at_ : Nat → List Value} : ∀ (len i0 : Nat),
    (∀ i, i < len → ∃ y, DataW.trod enc P w 0 (fun _ => true) true n e (at_ (i0 + i)) = some y) →
    ∃ s : G, ∃ l : List D, T.Holds w.heap (allB w) s ∧ s.free = true ∧ s.uni z ∧ s.len = len ∧ s.erase = sq l ∧ l.length = len ∧ (∀ d ∈ l, good d) ∧ s.cells = ((List.range len).map fun i => at_ (i0 + i)).flatten
  | 0, i0, _ => ⟨.nil, [], trivial, rfl, trivial, rfl, rfl, rfl, by simp, rfl⟩
  | len + 1, i0, h => by
    obtain ⟨y, hy⟩ := h 0 (by omega)
    obtain ⟨g, g1, g2, g3, g4, g5⟩ := he H enc w n _ y hy
    obtain ⟨s, l, s1, s2, s3, s4, s5, s6, s7, s8⟩ := reads_elems he len (i0 + 1) fun i hi => by
      have := h (i + 1) (by omega)
      rwa [show i0 + (i + 1) = i0 + 1 + i by omega] at this
    refine ⟨.cons g s, g.erase :: l, ⟨g1, s1⟩, by simp [T.free, g2, s2], ⟨g4, s3⟩, by simp [T.len, s4], by simp [T.erase, sq, s5], by simp [s6], fun d hd => ?_, ?_⟩
    · rcases List.mem_cons.1 hd with rfl | hd
      · exact g5
      · exact s7 d hd
    · rw [List.range_succ_eq_map]
      simp only [T.cells, g3, s8, List.map_cons, List.flatten_cons, List.map_map, Nat.add_zero]
      congr 3
      funext i
      simp only [Function.comp]
      congr 1; omega

theorem flat_at {α : Type} {z : Nat} (hz : 0 < z) : ∀ (l : List (List α)) (_ : ∀ c ∈ l, c.length = z) (j : Nat) (v : α), l.flatten[j]? = some v → ∃ c, l[j / z]? = some c ∧ c[j % z]? = some v
  | [], _, j, v, h => by simp at h
  | c :: l, hl, j, v, h => by
    have hc := hl c (by simp)
    simp only [List.flatten_cons] at h
    rcases Nat.lt_or_ge j z with hj | hj
    · rw [List.getElem?_append_left (by omega)] at h
      exact ⟨c, by rw [Nat.div_eq_of_lt hj]; rfl, by rw [Nat.mod_eq_of_lt hj]; exact h⟩
    · rw [List.getElem?_append_right (by omega), hc] at h
      obtain ⟨c', h1, h2⟩ := flat_at hz l (fun c hc => hl c (by simp [hc])) (j - z) v h
      refine ⟨c', ?_, ?_⟩
      · rw [show j / z = (j - z) / z + 1 by rw [Nat.div_eq_sub_div hz hj]]; simpa using h1
      · rw [Nat.mod_eq_sub_mod hj]; exact h2

/-- A slice that is an argument: it cannot change. -/
theorem imm_of_trod {P : Program} {t e : TypeId} {z : Nat} {good : D → Prop} (ht : P.underlying t = some (.slice e)) (he : Reads P e z good) (hc : P.cellsOf e = z) (hz : 0 < z) {H : Type} {enc : TypeId × Value → H} {w : World}
    {r : Reach} {b0 : Nat} {v : Value} {d : DataW H} {ps : List MemPlace} (hv : Value.okWide P w r b0 t v) (h : DataW.Trod enc P w 0 (fun _ => true) true t v d ps) :
    ∃ l : List D, (∀ d ∈ l, good d) ∧ l.length ≤ 2 ^ 63 - 1 ∧ Rl w.heap (allB w) [] (.imm z (sq l) false) true [v] := by
  obtain ⟨fuel, h⟩ := h
  have hok : Cell.ok P w r b0 t v := by
    unfold Value.okWide at hv
    rw [ht] at hv
    simp only [Cell.okWide, ht] at hv
    exact hv
  have hform : v = .slice none 0 0 ∨ ∃ a len cap, v = .slice (some a) len cap ∧ len ≤ cap ∧ (cap : Int) ≤ IntKind.i64.max ∧ a.spot = none := by
    unfold Cell.ok at hok
    rw [ht] at hok
    split at hok <;> try exact hok.elim
    all_goals first
      | (rename_i heq; cases heq; done)
      | skip
    · exact .inl rfl
    · exact .inr ⟨_, _, _, rfl, hok.1, hok.2.1, hok.2.2.2.1⟩
  rcases hform with rfl | ⟨a, len, cap, rfl, hlc, hcm, hspot⟩
  · exact ⟨[], by simp, by simp, _, rfl, .nil, rfl, ⟨trivial, trivial, fun _ => rfl, rfl, rfl, rfl⟩, fun h => by cases h⟩
  · obtain ⟨b, o, sp⟩ := a
    simp only at hspot
    subst hspot
    have hcm' : cap ≤ 2 ^ 63 - 1 := by
      have : IntKind.i64.max = 2 ^ 63 - 1 := by decide
      omega
    rcases cap with _ | cap
    · obtain rfl : len = 0 := by omega
      exact ⟨[], by simp, by simp, _, rfl, .nil, rfl, ⟨trivial, trivial, fun _ => rfl, rfl, rfl, rfl⟩, fun h => by cases h⟩
    · rcases DataW.trod_slice ht h with ⟨h0, _⟩ | ⟨a, len', cap', elems, rest, n, _, h0, _, hb, hl, hm, hlen, hel, hsp, _⟩
      · simp [Value.cells] at h0
      · simp only [Value.cells, List.cons.injEq, Value.slice.injEq, Option.some.injEq, and_true] at h0
        obtain ⟨rfl, rfl, rfl⟩ := h0
        obtain ⟨hsp1, hsp2⟩ := hsp rfl
        have hadd : ∀ k, (⟨b, o, none⟩ : Addr).add k = ⟨b, o + k, none⟩ := fun k => by unfold Addr.add; split <;> simp_all
        rw [hc] at hel hsp2
        -- every element reads
        have each : ∀ i, i < cap + 1 → ∃ cs, w.cells? 0 ((⟨b, o, none⟩ : Addr).add (i * z)) z = some cs ∧ ∃ y, DataW.trod enc P w 0 (fun _ => true) true n e cs = some y := fun i hi => by
          by_cases h1 : i < len
          · have h2 := hel i h1
            rw [List.getElem?_eq_getElem (by omega)] at h2
            obtain ⟨cs, h3, h4⟩ := Option.bind_eq_some_iff.1 h2
            exact ⟨cs, h3, _, h4⟩
          · have h2 := hsp2 (i - len) (by omega)
            rw [List.getElem?_eq_getElem (by omega), show len + (i - len) = i by omega] at h2
            obtain ⟨cs, h3, h4⟩ := Option.bind_eq_some_iff.1 h2
            exact ⟨cs, h3, _, h4⟩
        -- the row
        obtain ⟨csl, hl1, _⟩ := each cap (by omega)
        obtain ⟨hl2, hl3⟩ := cells?_at hl1
        have hl4 := hl3 (z - 1) _ (List.getElem?_eq_getElem (by omega))
        rw [hadd] at hl4
        have hadd2 : ∀ (o' k : Nat), (⟨b, o', none⟩ : Addr).add k = ⟨b, o' + k, none⟩ := fun o' k => by unfold Addr.add; split <;> simp_all
        rw [hadd2] at hl4
        obtain ⟨row, e', fr, hrow⟩ : ∃ row e' fr, w.heap[b]? = some (.cells row e' fr) := by
          unfold World.cell? at hl4
          split at hl4
          · rename_i c _ _ heq; exact ⟨_, _, _, heq⟩
          · cases hl4
        have cell : ∀ k v, w.cell? ⟨b, k, none⟩ = some v → row[k]? = some v := fun k v hk => by
          unfold World.cell? at hk
          simp only [hrow] at hk
          simpa using hk
        have hblt : b < w.heap.size := by
          rcases Nat.lt_or_ge b w.heap.size with h' | h'
          · exact h'
          · rw [Array.getElem?_eq_none h'] at hrow; cases hrow
        have hsz : o + (cap + 1) * z ≤ row.size := by
          have h5 := cell _ _ hl4
          have h6 := (Array.getElem?_eq_some_iff.1 h5).1
          rw [Nat.add_mul]; omega
        obtain ⟨s, l, s1, s2, s3, s4, s5, s6, s7, s8⟩ := reads_elems (enc := enc) (w := w) (n := n) (at_ := fun i => (w.cells? 0 ((⟨b, o, none⟩ : Addr).add (i * z)) z).getD []) he len 0 fun i hi => by
          obtain ⟨cs, h1, h2⟩ := each (0 + i) (by omega)
          rw [h1]; exact h2
        refine ⟨l, s7, by omega, _, rfl, s, s5, ⟨s1, s3, fun _ => s2, rfl, s4.symm, hlc, hcm', fun _ => hblt, row, e', fr, hrow, (fun h => by cases h), hsz, fun j v hj => ?_⟩, fun h => by cases h⟩
        rw [s8] at hj
        obtain ⟨c, c1, c2⟩ := flat_at hz _ (fun c hcm => by
          obtain ⟨i, hi, rfl⟩ := List.mem_map.1 hcm
          obtain ⟨cs, h1, _⟩ := each (0 + i) (by have := List.mem_range.1 hi; omega)
          rw [h1]; exact (cells?_at h1).1) j v hj
        rw [List.getElem?_map] at c1
        cases hr : (List.range len)[j / z]? with
        | none => rw [hr] at c1; cases c1
        | some i =>
          rw [hr] at c1
          obtain ⟨hi1, hi2⟩ := List.getElem?_eq_some_iff.1 hr
          simp only [List.length_range] at hi1
          simp only [List.getElem_range] at hi2
          subst hi2
          obtain ⟨cs, h1, _⟩ := each (0 + j / z) (by omega)
          simp only [Option.map_some, Option.some.injEq, h1, Option.getD_some] at c1
          subst c1
          have h2 := (cells?_at h1).2 _ _ c2
          rw [hadd, hadd2] at h2
          have h3 := cell _ _ h2
          rw [← h3]
          congr 1
          have := Nat.div_add_mod j z
          rw [Nat.mul_comm] at this
          simp only [Nat.zero_add]
          omega
end Go.Vc
