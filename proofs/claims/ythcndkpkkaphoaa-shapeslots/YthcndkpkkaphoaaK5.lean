/- ShapeSlots: Slot of a name is its place in Names, and the shapes above have the names in front of it. -/
import Derived.Test.YthcndkpkkaphoaaK4
import Derived.Test.YthcndkpkkaphoaaK3
import Derived.ChangeArms
import Derived.ChangeSlices
import Derived.Carry
namespace Go.Proofs.Ythcndkpkkaphoaa
set_option linter.all false
open Go.Vc Go.Proofs
set_option linter.unusedSimpArgs false
set_option maxRecDepth 100000
set_option maxHeartbeats 4000000
attribute [local irreducible] CallW EqK

theorem slot_in {S : Sp} {k : Nat} (hk : k < S.shapes.length) {n : ByteArray} (hn : namedB n = true) {i : Nat} (hp : posIn n S.shapes[k].names = i) : slotOf S k n = ((i : Int), 0) := by
  have h1 : shapedB S k = true := by simp [shapedB]; omega
  have hn' : ¬ (n = noName ∨ 40 < n.size) := by simpa [namedB] using hn
  have e : S.shapes.getD k ⟨0, []⟩ = S.shapes[k] := by simp [hk]
  unfold slotOf
  simp only [h1, Bool.true_eq_false, if_false, if_neg hn', Int.toNat_natCast, e, hp]
  rw [if_neg (by omega)]
theorem slot_out {S : Sp} {k : Nat} (hk : k < S.shapes.length) {n : ByteArray} (hn : namedB n = true) (hp : n ∉ S.shapes[k].names) : slotOf S k n = (0, 3) := by
  have h1 : shapedB S k = true := by simp [shapedB]; omega
  have hn' : ¬ (n = noName ∨ 40 < n.size) := by simpa [namedB] using hn
  have e : S.shapes.getD k ⟨0, []⟩ = S.shapes[k] := by simp [hk]
  have hneg : posIn n S.shapes[k].names < 0 := by
    rcases Int.lt_or_le (posIn n S.shapes[k].names) 0 with h | h
    · exact h
    · obtain ⟨i, hi, _, h2⟩ := posIn_nonneg h
      exact absurd (h2 ▸ List.getElem_mem hi) hp
  unfold slotOf
  simp only [h1, Bool.true_eq_false, if_false, if_neg hn', Int.toNat_natCast, e, hneg, if_true]

/-- The shape above one that has the first names of a list. -/
theorem above {l : List Sh} (hl : ShOk l) {k i : Nat} (hk : k < l.length) {ns : List ByteArray} (hi : i < ns.length) (hn : l[k].names = ns.take (i + 1)) :
    ∃ (p : Nat) (hp : p < k), l[k].parent = p ∧ (l[p]'(by omega)).names = ns.take i := by
  have hpos : 0 < k := by
    rcases Nat.eq_zero_or_pos k with h | h
    · subst h
      rw [hl.root hk] at hn
      have := congrArg List.length hn
      simp at this; omega
    · exact h
  obtain ⟨p, hp, n, h1, h2⟩ := hl.below k hk hpos
  refine ⟨p, hp, h1, ?_⟩
  rw [List.take_add_one, List.getElem?_eq_getElem hi, h2] at hn
  exact (List.append_inj' hn rfl).1
theorem rootOf {l : List Sh} (hl : ShOk l) {k : Nat} (hk : k < l.length) (hn : l[k].names = []) : k = 0 := by
  rcases Nat.eq_zero_or_pos k with h | h
  · exact h
  · obtain ⟨p, hp, n, h1, h2⟩ := hl.below k hk h
    rw [hn] at h2
    have := congrArg List.length h2
    simp at this

/- cabochon/cabochonlaw20.ShapeSlots -/
theorem slots_ok (ex : Bool) (l : List Deed) : Meets Try.prog 10 [] (.cons (.imm 4 (dDeeds l) ex) .nil) fun av X κ => av = .val (.bool true) := by
  obtain ⟨hwf, hpos⟩ := playedOf_wf l
  have hgood := playedOf_good l
  refine Meets.of_vs tabOk Try.func10 (body := ?_) ?_ (by kernel_rfl) Try.ntmps10 (rs := [.tmp 2]) (by kernel_rfl) rfl (by simp [AV.len]) (by simp only [envOf]; exact rfl) ?_
  rotate_left
  · rfl
  intro w0 I0 F0 hF
  repeat first
    | refine VS.seq ?_
    | (refine VS.keepAt 0 [0] ?_; generalize hK : VS _ _ _ = KK; (try simp); (try subst hK); refine VS.region tabOk (id := 0) [] (by kernel_rfl) ?_; generalize hK : VS _ _ _ = KK; simp (maxSteps := 1000000) [hF]; (try subst hK); try (refine VS.keep [0] ?_; generalize hK : VS _ _ _ = KK; simp; (try subst hK)))
    | (refine VS.keepAt 1 [0] ?_; generalize hK : VS _ _ _ = KK; (try simp); (try subst hK); refine VS.region tabOk (id := 1) [] (by kernel_rfl) ?_; generalize hK : VS _ _ _ = KK; simp (maxSteps := 1000000) [hF]; (try subst hK); try (refine VS.keep [0, 3] ?_; generalize hK : VS _ _ _ = KK; simp; (try subst hK)))
  refine (played_ok ex l).call [] (by simp) (by simp (maxSteps := 1000000) [hF]) (by simp (maxSteps := 1000000) [hF]) (by simp (maxSteps := 1000000) [hF]) ?_
  rintro av X κ ⟨rfl, rfl, rfl⟩
  generalize hK : VS _ _ _ = KK; simp (maxSteps := 1000000) [hF]; (try subst hK)
  generalize playedOf l = S at *
  repeat first
    | refine VS.seq ?_
    | refine VS.block ?_
    | (refine VS.keepAt 2 [0, 3] ?_; generalize hK : VS _ _ _ = KK; (try simp); (try subst hK); refine VS.region tabOk (id := 2) [] (by kernel_rfl) ?_; generalize hK : VS _ _ _ = KK; simp (maxSteps := 1000000) [hF]; (try subst hK); try (refine VS.keep [0, 3, 4] ?_; generalize hK : VS _ _ _ = KK; simp; (try subst hK)))
  refine VS.rounds (fun m st => ∃ (o : Nat), o + m = l.length + 1 ∧ st = ⟨[(0, .imm 4 (dDeeds l) ex), (3, .ptr 0 [.d]), (4, avInt o)], [dSp S], [], []⟩) ⟨l.length + 1, 0, by omega, by simp [dSp]⟩ ?_
  rintro m st ⟨o, hom, rfl⟩
  repeat first
    | refine VS.seq ?_
    | (refine VS.keepAt 3 [0, 3, 4] ?_; generalize hK : VS _ _ _ = KK; (try simp); (try subst hK); refine VS.region tabOk (id := 3) [] (by kernel_rfl) ?_; generalize hK : VS _ _ _ = KK; simp (maxSteps := 1000000) [hF]; (try subst hK); try (refine VS.keep [0, 3, 4, 22] ?_; generalize hK : VS _ _ _ = KK; simp; (try subst hK)))
    | (refine VS.cond ?_; generalize hK1 : VS _ _ _ = KK1; generalize hK2 : VS _ _ _ = KK2; simp (maxSteps := 1000000) [hF]; (try subst hK1); (try subst hK2))
  refine ⟨fun hlt => ?_, fun hge => ?_⟩
  · cases hb : hasB S o with
    | false =>
      repeat first
        | refine VS.seq ?_
        | refine VS.skip ?_
        | refine VS.block ?_
        | (refine VS.keepAt 5 [0, 3, 4] ?_; generalize hK : VS _ _ _ = KK; (try simp); (try subst hK); refine VS.region tabOk (id := 5) [] (by kernel_rfl) ?_; generalize hK : VS _ _ _ = KK; simp (maxSteps := 1000000) [hF]; (try subst hK); try (refine VS.keep [0, 3, 4, 5, 6] ?_; generalize hK : VS _ _ _ = KK; simp; (try subst hK)))
      refine (names1_no S hwf (by omega) o hb).call [(0, [])] (by simp) (by simp (maxSteps := 1000000) [hF, dSp]) (by simp (maxSteps := 1000000) [hF, dSp]) (by simp (maxSteps := 1000000) [hF, dSp]) ?_
      rintro av X κ ⟨rfl, rfl, rfl⟩
      generalize hK : VS _ _ _ = KK; simp (maxSteps := 1000000) [hF, dSp]; (try subst hK)
      repeat first
        | refine VS.seq ?_
        | refine VS.exit ?_
        | (refine VS.keepAt 6 [0, 3, 4, 5, 6] ?_; generalize hK : VS _ _ _ = KK; (try simp); (try subst hK); refine VS.region tabOk (id := 6) [] (by kernel_rfl) ?_; generalize hK : VS _ _ _ = KK; simp (maxSteps := 1000000) [hF]; (try subst hK); try (refine VS.keep [0, 3, 4, 5, 32] ?_; generalize hK : VS _ _ _ = KK; simp; (try subst hK)))
        | (refine VS.keepAt 27 [] ?_; generalize hK : VS _ _ _ = KK; (try simp); (try subst hK); refine VS.region tabOk (id := 27) [] (by kernel_rfl) ?_; generalize hK : VS _ _ _ = KK; simp (maxSteps := 1000000) [hF]; (try subst hK); try (refine VS.keep [2] ?_; generalize hK : VS _ _ _ = KK; simp; (try subst hK)))
        | (refine VS.cond ?_; generalize hK1 : VS _ _ _ = KK1; generalize hK2 : VS _ _ _ = KK2; simp (maxSteps := 1000000) [hF]; (try subst hK1); (try subst hK2))
      refine (sane_ok).call [] (by simp) (by simp (maxSteps := 1000000) [hF]) (by simp (maxSteps := 1000000) [hF]) (by simp (maxSteps := 1000000) [hF]) ?_
      rintro av X κ ⟨rfl, rfl, rfl⟩
      generalize hK : VS _ _ _ = KK; simp (maxSteps := 1000000) [hF]; (try subst hK)
      try refine VS.ret ?_
      repeat first | refine blockN_ret ?_ | refine loopN_ret ?_
      refine endK.of [2] [] [] (by simp [hF]) (by simp [covers, mpre]) ?_
      simp [hF, retK]
    | true =>
      have hj : o < S.objs.length := by simp [hasB] at hb; omega
      have hno := hwf.no
      have hw1 : IntKind.i64.wrap ((o : Int) + 1) = o + 1 := IntWalk.i64_in _ (by omega)
      have ho := hwf.ob _ (List.getElem_mem hj)
      have hnl := ho.names_len
      obtain ⟨hnd, hval⟩ := hgood _ (List.getElem_mem hj)
      have hsh : shapeOf S o = (S.objs[o].shape, 0) := by simp [shapeOf, hb, obAt_eq hj]
      repeat first
        | refine VS.seq ?_
        | refine VS.skip ?_
        | refine VS.block ?_
        | (refine VS.keepAt 5 [0, 3, 4] ?_; generalize hK : VS _ _ _ = KK; (try simp); (try subst hK); refine VS.region tabOk (id := 5) [] (by kernel_rfl) ?_; generalize hK : VS _ _ _ = KK; simp (maxSteps := 1000000) [hF]; (try subst hK); try (refine VS.keep [0, 3, 4, 5, 6] ?_; generalize hK : VS _ _ _ = KK; simp; (try subst hK)))
      refine (names1_yes S hwf (by omega) o hb).call [(0, [])] (by simp) (by simp (maxSteps := 1000000) [hF, dSp, obAt_eq hj]) (by simp (maxSteps := 1000000) [hF, dSp, obAt_eq hj]) (by simp (maxSteps := 1000000) [hF, dSp, obAt_eq hj]) ?_
      rintro av X κ ⟨rfl, rfl, rfl⟩
      generalize hK : VS _ _ _ = KK; simp (maxSteps := 1000000) [hF, dSp, obAt_eq hj]; (try subst hK)
      repeat first
        | refine VS.seq ?_
        | refine VS.skip ?_
        | (refine VS.keepAt 6 [0, 3, 4, 5, 6] ?_; generalize hK : VS _ _ _ = KK; (try simp); (try subst hK); refine VS.region tabOk (id := 6) [] (by kernel_rfl) ?_; generalize hK : VS _ _ _ = KK; simp (maxSteps := 1000000) [hF]; (try subst hK); try (refine VS.keep [0, 3, 4, 5, 32] ?_; generalize hK : VS _ _ _ = KK; simp; (try subst hK)))
        | (refine VS.keepAt 7 [0, 3, 4, 5] ?_; generalize hK : VS _ _ _ = KK; (try simp); (try subst hK); refine VS.region tabOk (id := 7) [] (by kernel_rfl) ?_; generalize hK : VS _ _ _ = KK; simp (maxSteps := 1000000) [hF]; (try subst hK); try (refine VS.keep [0, 3, 4, 5, 7] ?_; generalize hK : VS _ _ _ = KK; simp; (try subst hK)))
        | (refine VS.cond ?_; generalize hK1 : VS _ _ _ = KK1; generalize hK2 : VS _ _ _ = KK2; simp (maxSteps := 1000000) [hF]; (try subst hK1); (try subst hK2))
      refine (shape_ok S o).call [(0, [])] (by simp) (by simp (maxSteps := 1000000) [hF, dSp, hsh]) (by simp (maxSteps := 1000000) [hF, dSp, hsh]) (by simp (maxSteps := 1000000) [hF, dSp, hsh]) ?_
      rintro av X κ ⟨rfl, rfl, rfl⟩
      generalize hK : VS _ _ _ = KK; simp (maxSteps := 1000000) [hF, dSp, hsh]; (try subst hK)
      by_cases hneg : S.objs[o].shape < 0
      · repeat first
          | refine VS.seq ?_
          | refine VS.nil ?_
          | refine loopN_normal ?_
          | refine VS.exit ?_
          | refine blockN_hit ?_
          | (refine VS.keepAt 4 [0, 3, 4] ?_; generalize hK : VS _ _ _ = KK; (try simp); (try subst hK); refine VS.region tabOk (id := 4) [] (by kernel_rfl) ?_; generalize hK : VS _ _ _ = KK; simp (maxSteps := 1000000) [hF, hneg]; (try subst hK); try (refine VS.keep [0, 3, 4] ?_; generalize hK : VS _ _ _ = KK; simp; (try subst hK)))
          | (refine VS.keepAt 8 [0, 3, 4, 5, 7] ?_; generalize hK : VS _ _ _ = KK; (try simp); (try subst hK); refine VS.region tabOk (id := 8) [] (by kernel_rfl) ?_; generalize hK : VS _ _ _ = KK; simp (maxSteps := 1000000) [hF, hneg]; (try subst hK); try (refine VS.keep [0, 3, 4, 5, 7, 40] ?_; generalize hK : VS _ _ _ = KK; simp; (try subst hK)))
          | (refine VS.cond ?_; generalize hK1 : VS _ _ _ = KK1; generalize hK2 : VS _ _ _ = KK2; simp (maxSteps := 1000000) [hF, hneg]; (try subst hK1); (try subst hK2))
        refine nextK.of [0, 3, 4] [0] (m - 1) (by omega) (by simp [hF]) ?_
        refine ⟨o + 1, by omega, ?_⟩
        simp [dSp, hw1]
      · obtain ⟨k, hk, hk1, hk2⟩ := ho.2.2.resolve_left (by omega)
        have hw0 : IntKind.i64.wrap ((S.objs[o].names.length : Int) - 1) = S.objs[o].names.length - 1 := IntWalk.i64_in _ (by omega)
        repeat first
          | refine VS.seq ?_
          | refine VS.skip ?_
          | refine VS.block ?_
          | (refine VS.keepAt 8 [0, 3, 4, 5, 7] ?_; generalize hK : VS _ _ _ = KK; (try simp); (try subst hK); refine VS.region tabOk (id := 8) [] (by kernel_rfl) ?_; generalize hK : VS _ _ _ = KK; simp (maxSteps := 1000000) [hF, hneg]; (try subst hK); try (refine VS.keep [0, 3, 4, 5, 7, 40] ?_; generalize hK : VS _ _ _ = KK; simp; (try subst hK)))
          | (refine VS.keepAt 9 [0, 3, 4, 5, 7] ?_; generalize hK : VS _ _ _ = KK; (try simp); (try subst hK); refine VS.region tabOk (id := 9) [] (by kernel_rfl) ?_; generalize hK : VS _ _ _ = KK; simp (maxSteps := 1000000) [hF, hneg]; (try subst hK); try (refine VS.keep [0, 3, 4, 5, 7, 9] ?_; generalize hK : VS _ _ _ = KK; simp; (try subst hK)))
          | (refine VS.cond ?_; generalize hK1 : VS _ _ _ = KK1; generalize hK2 : VS _ _ _ = KK2; simp (maxSteps := 1000000) [hF, hneg]; (try subst hK1); (try subst hK2))
        refine VS.rounds (fun m' st => ∃ (kk : Nat) (hkk : kk < S.shapes.length), m' ≤ S.objs[o].names.length ∧ S.shapes[kk].names = S.objs[o].names.take m' ∧
          st = ⟨[(0, .imm 4 (dDeeds l) ex), (3, .ptr 0 [.d]), (4, avInt o), (5, .sub 1 [] 0 S.objs[o].names.length false), (7, avInt kk), (9, avInt ((m' : Int) - 1))], [dSp S, .sl true () 1 (dStrs S.objs[o].names)], [], []⟩)
          ⟨S.objs[o].names.length, k, hk, Nat.le_refl _, by rw [← hk2]; simp, by simp [dSp, hk1, hw0]⟩ ?_
        rintro m' st ⟨kk, hkk, hm', hnk, rfl⟩
        rcases m' with _ | t
        · have hk0 := rootOf hwf.sh hkk (by simpa using hnk)
          subst hk0
          repeat first
            | refine VS.seq ?_
            | refine VS.skip ?_
            | refine VS.nil ?_
            | refine blockN_normal ?_
            | refine loopN_normal ?_
            | refine VS.exit ?_
            | (refine VS.keepAt 4 [0, 3, 4] ?_; generalize hK : VS _ _ _ = KK; (try simp); (try subst hK); refine VS.region tabOk (id := 4) [] (by kernel_rfl) ?_; generalize hK : VS _ _ _ = KK; simp (maxSteps := 1000000) [hF]; (try subst hK); try (refine VS.keep [0, 3, 4] ?_; generalize hK : VS _ _ _ = KK; simp; (try subst hK)))
            | (refine VS.keepAt 10 [0, 3, 4, 5, 7, 9] ?_; generalize hK : VS _ _ _ = KK; (try simp); (try subst hK); refine VS.region tabOk (id := 10) [] (by kernel_rfl) ?_; generalize hK : VS _ _ _ = KK; simp (maxSteps := 1000000) [hF]; (try subst hK); try (refine VS.keep [0, 3, 4, 5, 7, 9, 45] ?_; generalize hK : VS _ _ _ = KK; simp; (try subst hK)))
            | (refine VS.keepAt 25 [0, 3, 4, 7] ?_; generalize hK : VS _ _ _ = KK; (try simp); (try subst hK); refine VS.region tabOk (id := 25) [] (by kernel_rfl) ?_; generalize hK : VS _ _ _ = KK; simp (maxSteps := 1000000) [hF]; (try subst hK); try (refine VS.keep [0, 3, 4, 101] ?_; generalize hK : VS _ _ _ = KK; simp; (try subst hK)))
            | (refine VS.cond ?_; generalize hK1 : VS _ _ _ = KK1; generalize hK2 : VS _ _ _ = KK2; simp (maxSteps := 1000000) [hF]; (try subst hK1); (try subst hK2))
          refine nextK.of [0, 3, 4] [0] (m - 1) (by omega) (by simp [hF]) ?_
          refine ⟨o + 1, by omega, ?_⟩
          simp [dSp, hw1]
        · have ht : t < S.objs[o].names.length := by omega
          have e9 : ((t + 1 : Nat) : Int) - 1 = t := by omega
          simp only [e9]
          obtain ⟨p, hp, hpar, hpn⟩ := above hwf.sh hkk ht hnk
          have hpl : p < S.shapes.length := by omega
          have hpv : parentOf S kk = ((p : Int), 0) := by
            have h1 : shapedB S kk = true := by simp [shapedB]; omega
            simp [parentOf, h1, hkk, hpar]
          have hsl : ∀ j (hj : j < S.objs[o].names.length), j ≤ t → slotOf S kk S.objs[o].names[j] = ((j : Int), 0) := fun j hj hjt => by
            refine slot_in hkk (hval _ (List.getElem_mem hj)) ?_
            rw [hnk]
            have := posIn_nodup (l := S.objs[o].names.take (t + 1)) (hnd.sublist (List.take_sublist ..)) (i := j) (by simp; omega)
            simpa using this
          have hso : slotOf S p S.objs[o].names[t] = (0, 3) := by
            refine slot_out hpl (hval _ (List.getElem_mem ht)) ?_
            rw [hpn]
            intro hm
            obtain ⟨i, hi, h2⟩ := List.getElem_of_mem hm
            simp only [List.length_take] at hi
            rw [List.getElem_take] at h2
            have := (List.getElem_inj hnd).1 h2
            omega
          have hnt := dStrs_nth ht
          have hwt : IntKind.i64.wrap ((t : Int) - 1) = t - 1 := IntWalk.i64_in _ (by omega)
          repeat first
            | refine VS.seq ?_
            | refine VS.skip ?_
            | refine VS.block ?_
            | (refine VS.keepAt 10 [0, 3, 4, 5, 7, 9] ?_; generalize hK : VS _ _ _ = KK; (try simp); (try subst hK); refine VS.region tabOk (id := 10) [] (by kernel_rfl) ?_; generalize hK : VS _ _ _ = KK; simp (maxSteps := 1000000) [hF]; (try subst hK); try (refine VS.keep [0, 3, 4, 5, 7, 9, 45] ?_; generalize hK : VS _ _ _ = KK; simp; (try subst hK)))
            | (refine VS.keepAt 12 [0, 3, 4, 5, 7, 9] ?_; generalize hK : VS _ _ _ = KK; (try simp); (try subst hK); refine VS.region tabOk (id := 12) [] (by kernel_rfl) ?_; generalize hK : VS _ _ _ = KK; simp (maxSteps := 1000000) [hF]; (try subst hK); try (refine VS.keep [0, 3, 4, 5, 7, 9, 10] ?_; generalize hK : VS _ _ _ = KK; simp; (try subst hK)))
            | (refine VS.cond ?_; generalize hK1 : VS _ _ _ = KK1; generalize hK2 : VS _ _ _ = KK2; simp (maxSteps := 1000000) [hF]; (try subst hK1); (try subst hK2))
          refine VS.rounds (fun m2 st => ∃ (j : Nat), j + m2 = t + 1 ∧
            st = ⟨[(0, .imm 4 (dDeeds l) ex), (3, .ptr 0 [.d]), (4, avInt o), (5, .sub 1 [] 0 S.objs[o].names.length false), (7, avInt kk), (9, avInt t), (10, avInt j)], [dSp S, .sl true () 1 (dStrs S.objs[o].names)], [], []⟩)
            ⟨t + 1, 0, by omega, by simp [dSp]⟩ ?_
          rintro m2 st ⟨j, hjm, rfl⟩
          repeat first
            | refine VS.seq ?_
            | (refine VS.keepAt 13 [0, 3, 4, 5, 7, 9, 10] ?_; generalize hK : VS _ _ _ = KK; (try simp); (try subst hK); refine VS.region tabOk (id := 13) [] (by kernel_rfl) ?_; generalize hK : VS _ _ _ = KK; simp (maxSteps := 1000000) [hF]; (try subst hK); try (refine VS.keep [0, 3, 4, 5, 7, 9, 10, 50] ?_; generalize hK : VS _ _ _ = KK; simp; (try subst hK)))
            | (refine VS.cond ?_; generalize hK1 : VS _ _ _ = KK1; generalize hK2 : VS _ _ _ = KK2; simp (maxSteps := 1000000) [hF]; (try subst hK1); (try subst hK2))
          refine ⟨fun hlt2 => ?_, fun hge2 => ?_⟩
          · have hj2 : j < S.objs[o].names.length := by omega
            have hnj := dStrs_nth hj2
            repeat first
              | refine VS.seq ?_
              | refine VS.skip ?_
              | refine VS.block ?_
              | (refine VS.keepAt 15 [0, 3, 4, 5, 7, 9, 10] ?_; generalize hK : VS _ _ _ = KK; (try simp); (try subst hK); refine VS.region tabOk (id := 15) [] (by kernel_rfl) ?_; generalize hK : VS _ _ _ = KK; simp (maxSteps := 1000000) [hF, hj2, hnj]; (try subst hK); try (refine VS.keep [0, 3, 4, 5, 7, 9, 10, 11, 12] ?_; generalize hK : VS _ _ _ = KK; simp; (try subst hK)))
            refine (slot_ok S hwf.sh kk S.objs[o].names[j]).call [(0, [])] (by simp) (by simp (maxSteps := 1000000) [hF, dSp, hsl j hj2 (by omega)]) (by simp (maxSteps := 1000000) [hF, dSp, hsl j hj2 (by omega)]) (by simp (maxSteps := 1000000) [hF, dSp, hsl j hj2 (by omega)]) ?_
            rintro av X κ ⟨rfl, rfl, rfl⟩
            generalize hK : VS _ _ _ = KK; simp (maxSteps := 1000000) [hF, dSp, hsl j hj2 (by omega)]; (try subst hK)
            repeat first
              | refine VS.seq ?_
              | refine VS.skip ?_
              | refine VS.nil ?_
              | refine blockN_normal ?_
              | refine loopN_normal ?_
              | (refine VS.keepAt 14 [0, 3, 4, 5, 7, 9, 10] ?_; generalize hK : VS _ _ _ = KK; (try simp); (try subst hK); refine VS.region tabOk (id := 14) [] (by kernel_rfl) ?_; generalize hK : VS _ _ _ = KK; simp (maxSteps := 1000000) [hF]; (try subst hK); try (refine VS.keep [0, 3, 4, 5, 7, 9, 10] ?_; generalize hK : VS _ _ _ = KK; simp; (try subst hK)))
              | (refine VS.keepAt 16 [0, 3, 4, 5, 7, 9, 10, 11, 12] ?_; generalize hK : VS _ _ _ = KK; (try simp); (try subst hK); refine VS.region tabOk (id := 16) [(2, 65)] (by kernel_rfl) ?_; generalize hK : VS _ _ _ = KK; simp (maxSteps := 1000000) [hF]; (try subst hK); try (refine VS.keep [0, 3, 4, 5, 7, 9, 10, 69] ?_; generalize hK : VS _ _ _ = KK; simp; (try subst hK)))
              | (refine VS.cond ?_; generalize hK1 : VS _ _ _ = KK1; generalize hK2 : VS _ _ _ = KK2; simp (maxSteps := 1000000) [hF]; (try subst hK1); (try subst hK2))
            refine nextK.of [0, 3, 4, 5, 7, 9, 10] [0, 1] (m2 - 1) (by omega) (by simp [hF]) ?_
            refine ⟨j + 1, by omega, ?_⟩
            simp [dSp]
            exact IntWalk.i64_in _ (by omega)
          · repeat first
              | refine VS.seq ?_
              | refine VS.exit ?_
              | (refine VS.keepAt 18 [0, 3, 4, 5, 7, 9] ?_; generalize hK : VS _ _ _ = KK; (try simp); (try subst hK); refine VS.region tabOk (id := 18) [] (by kernel_rfl) ?_; generalize hK : VS _ _ _ = KK; simp (maxSteps := 1000000) [hF]; (try subst hK); try (refine VS.keep [0, 3, 4, 5, 7, 9, 13, 14] ?_; generalize hK : VS _ _ _ = KK; simp; (try subst hK)))
            refine (parent_ok S kk).call [(0, [])] (by simp) (by simp (maxSteps := 1000000) [hF, dSp, hpv]) (by simp (maxSteps := 1000000) [hF, dSp, hpv]) (by simp (maxSteps := 1000000) [hF, dSp, hpv]) ?_
            rintro av X κ ⟨rfl, rfl, rfl⟩
            generalize hK : VS _ _ _ = KK; simp (maxSteps := 1000000) [hF, dSp, hpv]; (try subst hK)
            have hp1 : ¬ (kk : Int) ≤ p := by omega
            have hp2 : ¬ (p : Int) < 0 := by omega
            repeat first
              | refine VS.seq ?_
              | refine VS.skip ?_
              | (refine VS.keepAt 19 [0, 3, 4, 5, 7, 9, 13, 14] ?_; generalize hK : VS _ _ _ = KK; (try simp); (try subst hK); refine VS.region tabOk (id := 19) [(2, 78), (6, 82)] (by kernel_rfl) ?_; generalize hK : VS _ _ _ = KK; simp (maxSteps := 1000000) [hF, hp1, hp2, ht, hnt]; (try subst hK); try (refine VS.keep [0, 3, 4, 5, 9, 13, 86] ?_; generalize hK : VS _ _ _ = KK; simp; (try subst hK)))
              | (refine VS.keepAt 21 [0, 3, 4, 5, 9, 13] ?_; generalize hK : VS _ _ _ = KK; (try simp); (try subst hK); refine VS.region tabOk (id := 21) [] (by kernel_rfl) ?_; generalize hK : VS _ _ _ = KK; simp (maxSteps := 1000000) [hF, hp1, hp2, ht, hnt]; (try subst hK); try (refine VS.keep [0, 3, 4, 5, 9, 13, 16] ?_; generalize hK : VS _ _ _ = KK; simp; (try subst hK)))
              | (refine VS.cond ?_; generalize hK1 : VS _ _ _ = KK1; generalize hK2 : VS _ _ _ = KK2; simp (maxSteps := 1000000) [hF, hp1, hp2, ht, hnt]; (try subst hK1); (try subst hK2))
            refine (slot_ok S hwf.sh p S.objs[o].names[t]).call [(0, [])] (by simp) (by simp (maxSteps := 1000000) [hF, dSp, hso]) (by simp (maxSteps := 1000000) [hF, dSp, hso]) (by simp (maxSteps := 1000000) [hF, dSp, hso]) ?_
            rintro av X κ ⟨rfl, rfl, rfl⟩
            generalize hK : VS _ _ _ = KK; simp (maxSteps := 1000000) [hF, dSp, hso]; (try subst hK)
            repeat first
              | refine VS.seq ?_
              | refine VS.skip ?_
              | refine VS.nil ?_
              | refine blockN_normal ?_
              | refine loopN_normal ?_
              | (refine VS.keepAt 11 [0, 3, 4, 5, 7, 9] ?_; generalize hK : VS _ _ _ = KK; (try simp); (try subst hK); refine VS.region tabOk (id := 11) [] (by kernel_rfl) ?_; generalize hK : VS _ _ _ = KK; simp (maxSteps := 1000000) [hF, hwt]; (try subst hK); try (refine VS.keep [0, 3, 4, 5, 7, 9] ?_; generalize hK : VS _ _ _ = KK; simp; (try subst hK)))
              | (refine VS.keepAt 22 [0, 3, 4, 5, 9, 13, 16] ?_; generalize hK : VS _ _ _ = KK; (try simp); (try subst hK); refine VS.region tabOk (id := 22) [] (by kernel_rfl) ?_; generalize hK : VS _ _ _ = KK; simp (maxSteps := 1000000) [hF, hwt]; (try subst hK); try (refine VS.keep [0, 3, 4, 5, 9, 13, 98] ?_; generalize hK : VS _ _ _ = KK; simp; (try subst hK)))
              | (refine VS.keepAt 24 [0, 3, 4, 5, 9, 13] ?_; generalize hK : VS _ _ _ = KK; (try simp); (try subst hK); refine VS.region tabOk (id := 24) [] (by kernel_rfl) ?_; generalize hK : VS _ _ _ = KK; simp (maxSteps := 1000000) [hF, hwt]; (try subst hK); try (refine VS.keep [0, 3, 4, 5, 7, 9] ?_; generalize hK : VS _ _ _ = KK; simp; (try subst hK)))
              | (refine VS.cond ?_; generalize hK1 : VS _ _ _ = KK1; generalize hK2 : VS _ _ _ = KK2; simp (maxSteps := 1000000) [hF, hwt]; (try subst hK1); (try subst hK2))
            refine nextK.of [0, 3, 4, 5, 7, 9] [0, 1] (t) (by omega) (by simp [hF]) ?_
            refine ⟨p, hpl, by omega, hpn, ?_⟩
            simp [dSp, hwt]
  · repeat first
      | refine VS.seq ?_
      | refine VS.exit ?_
      | (refine VS.keepAt 27 [] ?_; generalize hK : VS _ _ _ = KK; (try simp); (try subst hK); refine VS.region tabOk (id := 27) [] (by kernel_rfl) ?_; generalize hK : VS _ _ _ = KK; simp (maxSteps := 1000000) [hF]; (try subst hK); try (refine VS.keep [2] ?_; generalize hK : VS _ _ _ = KK; simp; (try subst hK)))
    refine (sane_ok).call [] (by simp) (by simp (maxSteps := 1000000) [hF]) (by simp (maxSteps := 1000000) [hF]) (by simp (maxSteps := 1000000) [hF]) ?_
    rintro av X κ ⟨rfl, rfl, rfl⟩
    generalize hK : VS _ _ _ = KK; simp (maxSteps := 1000000) [hF]; (try subst hK)
    try refine VS.ret ?_
    repeat first | refine blockN_ret ?_ | refine loopN_ret ?_
    refine endK.of [2] [] [] (by simp [hF]) (by simp [covers, mpre]) ?_
    simp [hF, retK]
end Go.Proofs.Ythcndkpkkaphoaa

/- From what a row's argument reads as to trees that cannot change. -/
namespace Go.Vc
set_option linter.all false
open T (hdr blk)

/-- The blocks that are there. -/
abbrev allB (w : World) : Nat → Prop := fun b => b < w.heap.size

/-- What a reading of a type shows: a tree that cannot change, of 'z' cells, with such a content. -/
def Reads (P : Program) (t : TypeId) (z : Nat) (good : D → Prop) : Prop :=
  ∀ (H : Type) (enc : TypeId × Value → H) (w : World) (fuel : Nat) (cs : List Value) (x : DataW H × List MemPlace), DataW.trod enc P w 0 (fun _ => true) true fuel t cs = some x →
    ∃ g : G, T.Holds w.heap (allB w) g ∧ g.free = true ∧ g.cells = cs ∧ g.width = z ∧ good g.erase

theorem reads_int {P : Program} {t : TypeId} {k : IntKind} (ht : P.underlying t = some (.int k)) : Reads P t 1 fun d => ∃ n, d = .val (.int k n) := fun H enc w fuel cs x h => by
  obtain ⟨n, rfl, _, _⟩ := DataW.trod_int ht h
  exact ⟨.val (.int k n), rfl, rfl, rfl, rfl, n, rfl⟩
theorem reads_str {P : Program} {t : TypeId} (ht : P.underlying t = some .string) : Reads P t 1 fun d => ∃ s, d = .val (.string s) := fun H enc w fuel cs x h => by
  obtain ⟨s, rfl, _, _⟩ := DataW.trod_string ht h
  exact ⟨.val (.string s), rfl, rfl, rfl, rfl, s, rfl⟩
theorem reads_bool {P : Program} {t : TypeId} (ht : P.underlying t = some .bool) : Reads P t 1 fun d => ∃ b, d = .val (.bool b) := fun H enc w fuel cs x h => by
  obtain ⟨b, rfl, _⟩ := DataW.trod_bool ht h
  exact ⟨.val (.bool b), rfl, rfl, rfl, rfl, b, rfl⟩

/-- The fields of a struct, one behind the other. -/
def FieldsRead (P : Program) : List Field → List (Nat × (D → Prop)) → Nat → Prop
  | [], [], _ => True
  | f :: fs, (z, good) :: r, o => Reads P f.type z good ∧ P.cellsOf f.type = z ∧ f.offset = o ∧ FieldsRead P fs r (o + z)
  | _, _, _ => False
def fieldsGood : List (Nat × (D → Prop)) → D → Prop
  | [], d => d = .nil
  | (_, good) :: r, d => ∃ a t, d = .cons a t ∧ good a ∧ fieldsGood r t
def fieldsSize : List (Nat × (D → Prop)) → Nat
  | [] => 0
  | (z, _) :: r => z + fieldsSize r

theorem reads_struct {P : Program} {t : TypeId} {fs : Array Field} (ht : P.underlying t = some (.struct fs)) {gs : List (Nat × (D → Prop))} (hf : FieldsRead P fs.toList gs 0) (hz : P.cellsOf t = fieldsSize gs) :
    Reads P t (fieldsSize gs) fun d => ∃ s, d = .agg s ∧ fieldsGood gs s := fun H enc w fuel cs x h => by
  obtain ⟨xs, n, _, _, hl, hlen, he⟩ := DataW.trod_struct ht h
  have each : ∀ f ∈ fs.toList, ∃ y, DataW.trod enc P w 0 (fun _ => true) true n f.type ((cs.drop f.offset).take (P.cellsOf f.type)) = some y := fun f hm => by
    obtain ⟨i, hi, rfl⟩ := List.getElem_of_mem hm
    have h1 := he i fs[i] (by simp at hi; simp [hi])
    rw [List.getElem?_eq_getElem (by simp at hi; omega)] at h1
    exact ⟨_, h1⟩
  have key : ∀ (l : List Field) (gs : List (Nat × (D → Prop))) (o : Nat), FieldsRead P l gs o → (∀ f ∈ l, f ∈ fs.toList) → cs.length = o + fieldsSize gs →
      ∃ s : G, T.Holds w.heap (allB w) s ∧ s.free = true ∧ s.cells = cs.drop o ∧ s.width = fieldsSize gs ∧ fieldsGood gs s.erase := by
    intro l
    induction l with
    | nil =>
      intro gs o h1 _ h2
      cases gs with
      | nil => exact ⟨.nil, trivial, rfl, by simp only [fieldsSize] at h2; simp [T.cells, h2], rfl, rfl⟩
      | cons _ _ => exact h1.elim
    | cons f l ih =>
      intro gs o h1 hm h2
      cases gs with
      | nil => exact h1.elim
      | cons p r =>
        obtain ⟨z, good⟩ := p
        obtain ⟨k1, k2, k3, k4⟩ := h1
        simp only [fieldsSize] at h2
        obtain ⟨s, s1, s2, s3, s4, s5⟩ := ih r (o + z) k4 (fun f hf => hm f (by simp [hf])) (by omega)
        obtain ⟨y, hy⟩ := each f (hm f (by simp))
        obtain ⟨g, g1, g2, g3, g4, g5⟩ := k1 H enc w n _ y hy
        refine ⟨.cons g s, ⟨g1, s1⟩, by simp [T.free, g2, s2], ?_, by simp [T.width, g4, s4, fieldsSize], _, _, rfl, g5, s5⟩
        simp only [T.cells, g3, s3, k2, k3]
        rw [← List.drop_drop, List.take_append_drop]
  obtain ⟨s, s1, s2, s3, s4, s5⟩ := key fs.toList gs 0 hf (fun _ h => h) (by rw [hl, hz]; omega)
  exact ⟨.agg s, s1, s2, by simpa [T.cells] using s3, s4, _, rfl, s5⟩

theorem erase_agg {g : G} {s : D} (h : g.erase = .agg s) : ∃ s', g = .agg s' ∧ s'.erase = s := by
  cases g <;> simp only [T.erase] at h <;> cases h
  exact ⟨_, rfl, rfl⟩
theorem erase_cons {g : G} {a t : D} (h : g.erase = .cons a t) : ∃ a' t', g = .cons a' t' ∧ a'.erase = a ∧ t'.erase = t := by
  cases g <;> simp only [T.erase] at h <;> cases h
  exact ⟨_, _, rfl, rfl, rfl⟩
theorem erase_val {g : G} {v : Value} (h : g.erase = .val v) : g = .val v := by
  cases g <;> simp only [T.erase] at h <;> cases h
  rfl
theorem erase_nil {g : G} (h : g.erase = .nil) : g = .nil := by
  cases g <;> simp only [T.erase] at h <;> cases h
  rfl

theorem map_of {α β : Type} {f : β → α} : ∀ {l : List α}, (∀ x ∈ l, ∃ y, x = f y) → ∃ ys : List β, l = ys.map f
  | [], _ => ⟨[], rfl⟩
  | x :: l, h => by
    obtain ⟨y, hy⟩ := h x (by simp)
    obtain ⟨ys, hys⟩ := map_of (l := l) (f := f) fun x hx => h x (List.mem_cons_of_mem _ hx)
    exact ⟨y :: ys, by rw [hy, hys]; rfl⟩

theorem cells?_at {w : World} {a : Addr} {n : Nat} {cs : List Value} (h : w.cells? 0 a n = some cs) : cs.length = n ∧ ∀ r v, cs[r]? = some v → w.cell? (a.add r) = some v := by
  obtain ⟨_, h1, h2⟩ := World.cells?_some h
  refine ⟨h1, fun r v hv => ?_⟩
  have hr : r < n := by rw [← h1]; exact (List.getElem?_eq_some_iff.1 hv).1
  have := h2 r hr
  rw [this, hv]

/-- The elements of a slice, one behind the other. -/
theorem reads_elems {P : Program} {e : TypeId} {z : Nat} {good : D → Prop} (he : Reads P e z good) {H : Type} {enc : TypeId × Value → H} {w : World} {n : Nat} {at_ : Nat → List Value} : ∀ (len i0 : Nat),
    (∀ i, i < len → ∃ y, DataW.trod enc P w 0 (fun _ => true) true n e (at_ (i0 + i)) = some y) →
    ∃ s : G, ∃ l : List D, T.Holds w.heap (allB w) s ∧ s.free = true ∧ s.uni z ∧ s.len = len ∧ s.erase = sq l ∧ l.length = len ∧ (∀ d ∈ l, good d) ∧ s.cells = ((List.range len).map fun i => at_ (i0 + i)).flatten
  | 0, i0, _ => ⟨.nil, [], trivial, rfl, trivial, rfl, rfl, rfl, by simp, rfl⟩
  | len + 1, i0, h => by
    obtain ⟨y, hy⟩ := h 0 (by omega)
    obtain ⟨g, g1, g2, g3, g4, g5⟩ := he H enc w n _ y hy
    obtain ⟨s, l, s1, s2, s3, s4, s5, s6, s7, s8⟩ := reads_elems he len (i0 + 1) fun i hi => by
      have := h (i + 1) (by omega)
      rwa [show i0 + (i + 1) = i0 + 1 + i by omega] at this
    refine ⟨.cons g s, g.erase :: l, ⟨g1, s1⟩, by simp [T.free, g2, s2], ⟨g4, s3⟩, by simp [T.len, s4], by simp [T.erase, sq, s5], by simp [s6], fun d hd => ?_, ?_⟩
    · rcases List.mem_cons.1 hd with rfl | hd
      · exact g5
      · exact s7 d hd
    · rw [List.range_succ_eq_map]
      simp only [T.cells, g3, s8, List.map_cons, List.flatten_cons, List.map_map, Nat.add_zero]
      congr 3
      funext i
      simp only [Function.comp]
      congr 1; omega

theorem flat_at {α : Type} {z : Nat} (hz : 0 < z) : ∀ (l : List (List α)) (_ : ∀ c ∈ l, c.length = z) (j : Nat) (v : α), l.flatten[j]? = some v → ∃ c, l[j / z]? = some c ∧ c[j % z]? = some v
  | [], _, j, v, h => by simp at h
  | c :: l, hl, j, v, h => by
    have hc := hl c (by simp)
    simp only [List.flatten_cons] at h
    rcases Nat.lt_or_ge j z with hj | hj
    · rw [List.getElem?_append_left (by omega)] at h
      exact ⟨c, by rw [Nat.div_eq_of_lt hj]; rfl, by rw [Nat.mod_eq_of_lt hj]; exact h⟩
    · rw [List.getElem?_append_right (by omega), hc] at h
      obtain ⟨c', h1, h2⟩ := flat_at hz l (fun c hc => hl c (by simp [hc])) (j - z) v h
      refine ⟨c', ?_, ?_⟩
      · rw [show j / z = (j - z) / z + 1 by rw [Nat.div_eq_sub_div hz hj]]; simpa using h1
      · rw [Nat.mod_eq_sub_mod hj]; exact h2

/-- A slice that is an argument: it cannot change. -/
theorem imm_of_trod {P : Program} {t e : TypeId} {z : Nat} {good : D → Prop} (ht : P.underlying t = some (.slice e)) (he : Reads P e z good) (hc : P.cellsOf e = z) (hz : 0 < z) {H : Type} {enc : TypeId × Value → H} {w : World}
    {r : Reach} {b0 : Nat} {v : Value} {d : DataW H} {ps : List MemPlace} (hv : Value.okWide P w r b0 t v) (h : DataW.Trod enc P w 0 (fun _ => true) true t v d ps) :
    ∃ l : List D, (∀ d ∈ l, good d) ∧ l.length ≤ 2 ^ 63 - 1 ∧ Rl w.heap (allB w) [] (.imm z (sq l) false) true [v] := by
  obtain ⟨fuel, h⟩ := h
  have hok : Cell.ok P w r b0 t v := by
    unfold Value.okWide at hv
    rw [ht] at hv
    simp only [Cell.okWide, ht] at hv
    exact hv
  have hform : v = .slice none 0 0 ∨ ∃ a len cap, v = .slice (some a) len cap ∧ len ≤ cap ∧ (cap : Int) ≤ IntKind.i64.max ∧ a.spot = none := by
    unfold Cell.ok at hok
    rw [ht] at hok
    split at hok <;> try exact hok.elim
    all_goals first
      | (rename_i heq; cases heq; done)
      | skip
    · exact .inl rfl
    · exact .inr ⟨_, _, _, rfl, hok.1, hok.2.1, hok.2.2.2.1⟩
  rcases hform with rfl | ⟨a, len, cap, rfl, hlc, hcm, hspot⟩
  · exact ⟨[], by simp, by simp, _, rfl, .nil, rfl, ⟨trivial, trivial, fun _ => rfl, rfl, rfl, rfl⟩, fun h => by cases h⟩
  · obtain ⟨b, o, sp⟩ := a
    simp only at hspot
    subst hspot
    have hcm' : cap ≤ 2 ^ 63 - 1 := by
      have : IntKind.i64.max = 2 ^ 63 - 1 := by decide
      omega
    rcases cap with _ | cap
    · obtain rfl : len = 0 := by omega
      exact ⟨[], by simp, by simp, _, rfl, .nil, rfl, ⟨trivial, trivial, fun _ => rfl, rfl, rfl, rfl⟩, fun h => by cases h⟩
    · rcases DataW.trod_slice ht h with ⟨h0, _⟩ | ⟨a, len', cap', elems, rest, n, _, h0, _, hb, hl, hm, hlen, hel, hsp, _⟩
      · simp [Value.cells] at h0
      · simp only [Value.cells, List.cons.injEq, Value.slice.injEq, Option.some.injEq, and_true] at h0
        obtain ⟨rfl, rfl, rfl⟩ := h0
        obtain ⟨hsp1, hsp2⟩ := hsp rfl
        have hadd : ∀ k, (⟨b, o, none⟩ : Addr).add k = ⟨b, o + k, none⟩ := fun k => by unfold Addr.add; split <;> simp_all
        rw [hc] at hel hsp2
        -- every element reads
        have each : ∀ i, i < cap + 1 → ∃ cs, w.cells? 0 ((⟨b, o, none⟩ : Addr).add (i * z)) z = some cs ∧ ∃ y, DataW.trod enc P w 0 (fun _ => true) true n e cs = some y := fun i hi => by
          by_cases h1 : i < len
          · have h2 := hel i h1
            rw [List.getElem?_eq_getElem (by omega)] at h2
            obtain ⟨cs, h3, h4⟩ := Option.bind_eq_some_iff.1 h2
            exact ⟨cs, h3, _, h4⟩
          · have h2 := hsp2 (i - len) (by omega)
            rw [List.getElem?_eq_getElem (by omega), show len + (i - len) = i by omega] at h2
            obtain ⟨cs, h3, h4⟩ := Option.bind_eq_some_iff.1 h2
            exact ⟨cs, h3, _, h4⟩
        -- the row
        obtain ⟨csl, hl1, _⟩ := each cap (by omega)
        obtain ⟨hl2, hl3⟩ := cells?_at hl1
        have hl4 := hl3 (z - 1) _ (List.getElem?_eq_getElem (by omega))
        rw [hadd] at hl4
        have hadd2 : ∀ (o' k : Nat), (⟨b, o', none⟩ : Addr).add k = ⟨b, o' + k, none⟩ := fun o' k => by unfold Addr.add; split <;> simp_all
        rw [hadd2] at hl4
        obtain ⟨row, e', fr, hrow⟩ : ∃ row e' fr, w.heap[b]? = some (.cells row e' fr) := by
          unfold World.cell? at hl4
          split at hl4
          · rename_i c _ _ heq; exact ⟨_, _, _, heq⟩
          · cases hl4
        have cell : ∀ k v, w.cell? ⟨b, k, none⟩ = some v → row[k]? = some v := fun k v hk => by
          unfold World.cell? at hk
          simp only [hrow] at hk
          simpa using hk
        have hblt : b < w.heap.size := by
          rcases Nat.lt_or_ge b w.heap.size with h' | h'
          · exact h'
          · rw [Array.getElem?_eq_none h'] at hrow; cases hrow
        have hsz : o + (cap + 1) * z ≤ row.size := by
          have h5 := cell _ _ hl4
          have h6 := (Array.getElem?_eq_some_iff.1 h5).1
          rw [Nat.add_mul]; omega
        obtain ⟨s, l, s1, s2, s3, s4, s5, s6, s7, s8⟩ := reads_elems (enc := enc) (w := w) (n := n) (at_ := fun i => (w.cells? 0 ((⟨b, o, none⟩ : Addr).add (i * z)) z).getD []) he len 0 fun i hi => by
          obtain ⟨cs, h1, h2⟩ := each (0 + i) (by omega)
          rw [h1]; exact h2
        refine ⟨l, s7, by omega, _, rfl, s, s5, ⟨s1, s3, fun _ => s2, rfl, s4.symm, hlc, hcm', fun _ => hblt, row, e', fr, hrow, (fun h => by cases h), hsz, fun j v hj => ?_⟩, fun h => by cases h⟩
        rw [s8] at hj
        obtain ⟨c, c1, c2⟩ := flat_at hz _ (fun c hcm => by
          obtain ⟨i, hi, rfl⟩ := List.mem_map.1 hcm
          obtain ⟨cs, h1, _⟩ := each (0 + i) (by have := List.mem_range.1 hi; omega)
          rw [h1]; exact (cells?_at h1).1) j v hj
        rw [List.getElem?_map] at c1
        cases hr : (List.range len)[j / z]? with
        | none => rw [hr] at c1; cases c1
        | some i =>
          rw [hr] at c1
          obtain ⟨hi1, hi2⟩ := List.getElem?_eq_some_iff.1 hr
          simp only [List.length_range] at hi1
          simp only [List.getElem_range] at hi2
          subst hi2
          obtain ⟨cs, h1, _⟩ := each (0 + j / z) (by omega)
          simp only [Option.map_some, Option.some.injEq, h1, Option.getD_some] at c1
          subst c1
          have h2 := (cells?_at h1).2 _ _ c2
          rw [hadd, hadd2] at h2
          have h3 := cell _ _ h2
          rw [← h3]
          congr 1
          have := Nat.div_add_mod j z
          rw [Nat.mul_comm] at this
          simp only [Nat.zero_add]
          omega
end Go.Vc
