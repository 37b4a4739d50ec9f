/- LineageRefused: what is refused changes nothing. -/
import Derived.Test.YtahgopdamgagkaaK6
import Derived.Test.YtahgopdamgagkaaRows
import Derived.Test.YtahgopdamgagkaaK7
import Derived.WalkKit
import Derived.ProofKit
import Derived.OpenShut
import Derived.ShutString
import Derived.ChangeOld
import Derived.Carry
namespace Go.Proofs.Ytahgopdamgagkaa
set_option linter.all false
open Go.Vc Go.Proofs
set_option linter.unusedSimpArgs false
set_option linter.unusedVariables false
set_option maxRecDepth 100000
set_option maxHeartbeats 4000000
attribute [local irreducible] CallW EqK

noncomputable def ordsTo (L : List Th) (n : Nat) : List (List Int) := (List.range n).map fun k : Nat => ordL L (k : Int)
theorem ordsTo_succ (L : List Th) (n : Nat) : ordsTo L (n + 1) = ordsTo L n ++ [ordL L n] := by simp [ordsTo, List.range_succ]
theorem ordsTo_len (L : List Th) (n : Nat) : (ordsTo L n).length = n := by simp [ordsTo]
theorem ordsTo_at {L : List Th} {n k : Nat} (h : k < (ordsTo L n).length) : (ordsTo L n)[k] = ordL L k := by simp [ordsTo]

/- cabochon/cabochonlaw18.LineageRefused -/
theorem refused_ok (ex : Bool) (l : List Deed) (d : Deed) : Meets Try.prog 4 [] (.cons (.imm 3 (dDeeds l) ex) (.cons (avDeed d) .nil)) fun av X κ => av = .val (.bool true) := by
  obtain ⟨hok, hpos⟩ := playedOf_OK l
  have hl := hok.len
  unfold avDeed
  refine Meets.of_vs tabOk Try.func4 (body := ?_) ?_ (by kernel_rfl) Try.ntmps4 (rs := [.tmp 4]) (by kernel_rfl) rfl (by simp [AV.len]) (by simp only [envOf]; exact rfl) ?_
  rotate_left
  · rfl
  intro w0 I0 F0 hF
  repeat first
    | refine VS.seq ?_
    | (refine VS.keepAt 0 [0, 1] ?_; generalize hK : VS _ _ _ = KK; (try simp); (try subst hK); refine VS.region tabOk (id := 0) [] (by kernel_rfl) ?_; generalize hK : VS _ _ _ = KK; simp (maxSteps := 1000000) [hF]; (try subst hK); try (refine VS.keep [0, 3] ?_; generalize hK : VS _ _ _ = KK; simp; (try subst hK)))
    | (refine VS.keepAt 1 [0, 3] ?_; generalize hK : VS _ _ _ = KK; (try simp); (try subst hK); refine VS.region tabOk (id := 1) [] (by kernel_rfl) ?_; generalize hK : VS _ _ _ = KK; simp (maxSteps := 1000000) [hF]; (try subst hK); try (refine VS.keep [3, 5] ?_; generalize hK : VS _ _ _ = KK; simp; (try subst hK)))
  refine (played_ok ex l).call [] (by simp) (by simp (maxSteps := 1000000) [hF]) (by simp (maxSteps := 1000000) [hF]) (by simp (maxSteps := 1000000) [hF]) (by simp) ?_
  rintro av X κ ⟨rfl, rfl, rfl⟩
  generalize hK : VS _ _ _ = KK; simp (maxSteps := 1000000) [hF]; (try subst hK)
  generalize playedOf l = L at *
  obtain ⟨n1, n2, n3⟩ := doOf_OK hok hpos d
  repeat first
    | refine VS.seq ?_
    | (refine VS.keepAt 2 [3, 5] ?_; generalize hK : VS _ _ _ = KK; (try simp); (try subst hK); refine VS.region tabOk (id := 2) [] (by kernel_rfl) ?_; generalize hK : VS _ _ _ = KK; simp (maxSteps := 1000000) [hF]; (try subst hK); try (refine VS.keep [3, 5, 6] ?_; generalize hK : VS _ _ _ = KK; simp; (try subst hK)))
  refine (len_ok L hl).call [(1, [])] (by simp) (by simp (maxSteps := 1000000) [hF, dL]) (by simp (maxSteps := 1000000) [hF, dL]) (by simp (maxSteps := 1000000) [hF, dL]) (by simp) ?_
  rintro av X κ ⟨rfl, rfl, rfl⟩
  generalize hK : VS _ _ _ = KK; simp (maxSteps := 1000000) [hF, dL]; (try subst hK)
  repeat first
    | refine VS.seq ?_
    | refine VS.block ?_
    | (refine VS.keepAt 3 [3, 5, 6] ?_; generalize hK : VS _ _ _ = KK; (try simp); (try subst hK); refine VS.region tabOk (id := 3) [] (by kernel_rfl) ?_; generalize hK : VS _ _ _ = KK; simp (maxSteps := 1000000) [hF]; (try subst hK); try (refine VS.keep [3, 5, 6, 7] ?_; generalize hK : VS _ _ _ = KK; simp; (try subst hK)))
    | (refine VS.keepAt 4 [3, 5, 6, 7] ?_; generalize hK : VS _ _ _ = KK; (try simp); (try subst hK); refine VS.region tabOk (id := 4) [] (by kernel_rfl) ?_; generalize hK : VS _ _ _ = KK; simp (maxSteps := 1000000) [hF]; (try subst hK); try (refine VS.keep [3, 5, 6, 7, 8] ?_; generalize hK : VS _ _ _ = KK; simp; (try subst hK)))
  refine VS.hold0 7 1 (by simp) ?_
  refine VS.pick [3, 5, 6, 7, 8] [0, 1, 2] (by simp [hF]) ?_
  generalize hK : VS _ _ _ = KK; simp [hF]; (try subst hK)
  refine VS.rounds (fun m st => ∃ (c : Nat), c + m = L.length ∧ st = ⟨[(3, .ptr 0 [.d]), (5, .ptr 1 [.d]), (6, avInt L.length), (7, .sub 2 [] 0 c false), (8, avInt c)], [.box true () (dDeed d), dL L, .sl true () 1 (dLs (ordsTo L c))], [], []⟩)
    ⟨L.length, 0, by omega, by simp [dL, dDeed, ordsTo]⟩ ?_
  rintro m st ⟨c, hc, rfl⟩
  repeat first
    | refine VS.seq ?_
    | (refine VS.keepAt 5 [3, 5, 6, 7, 8] ?_; generalize hK : VS _ _ _ = KK; (try simp); (try subst hK); refine VS.region tabOk (id := 5) [] (by kernel_rfl) ?_; generalize hK : VS _ _ _ = KK; simp (maxSteps := 1000000) [hF]; (try subst hK); try (refine VS.keep [3, 5, 6, 7, 8, 22] ?_; generalize hK : VS _ _ _ = KK; simp; (try subst hK)))
    | (refine VS.cond ?_; generalize hK1 : VS _ _ _ = KK1; generalize hK2 : VS _ _ _ = KK2; simp (maxSteps := 1000000) [hF]; (try subst hK1); (try subst hK2))
  refine ⟨fun hlt => ?_, fun hge => ?_⟩
  · have hcl : c < L.length := by omega
    have hsucc := ordsTo_succ L c
    have happ := dLs_app1 (ordsTo L c) (ordL L c)
    have hmid : (dLs (ordsTo L c)).mid 0 c = dLs (ordsTo L c) := sq_mid_all _ _ (by simp [ordsTo])
    have b1 : (c + 1) * 24 ≤ 140737488355328 := by omega
    have b2 : c + 1 ≤ 9223372036854775807 := by omega
    repeat first
      | refine VS.seq ?_
      | refine VS.skip ?_
      | refine VS.block ?_
      | (refine VS.keepAt 7 [3, 5, 6, 7, 8] ?_; generalize hK : VS _ _ _ = KK; (try simp); (try subst hK); refine VS.region tabOk (id := 7) [] (by kernel_rfl) ?_; generalize hK : VS _ _ _ = KK; simp (maxSteps := 1000000) [hF]; (try subst hK); try (refine VS.keep [3, 5, 6, 7, 8, 9] ?_; generalize hK : VS _ _ _ = KK; simp; (try subst hK)))
    refine (Order_yes hok.wf c hcl).call [(1, [])] (by simp) (by simp (maxSteps := 1000000) [hF, dL]) (by simp (maxSteps := 1000000) [hF, dL]) (by simp (maxSteps := 1000000) [hF, dL]) (by simp) ?_
    rintro av X κ ⟨rfl, rfl, rfl⟩
    generalize hK : VS _ _ _ = KK; simp (maxSteps := 1000000) [hF, dL]; (try subst hK)
    repeat first
      | refine VS.nil ?_
      | refine blockN_normal ?_
      | refine loopN_normal ?_
      | (refine VS.keepAt 6 [3, 5, 6, 7, 8] ?_; generalize hK : VS _ _ _ = KK; (try simp); (try subst hK); refine VS.region tabOk (id := 6) [] (by kernel_rfl) ?_; generalize hK : VS _ _ _ = KK; simp (maxSteps := 1000000) [hF, hmid, happ, b1, b2]; (try subst hK); try (refine VS.keep [3, 5, 6, 7, 8] ?_; generalize hK : VS _ _ _ = KK; simp; (try subst hK)))
      | (refine VS.keepAt 8 [3, 5, 6, 7, 8, 9] ?_; generalize hK : VS _ _ _ = KK; (try simp); (try subst hK); refine VS.region tabOk (id := 8) [] (by kernel_rfl) ?_; generalize hK : VS _ _ _ = KK; simp (maxSteps := 1000000) [hF, hmid, happ, b1, b2]; (try subst hK); try (refine VS.keep [3, 5, 6, 7, 8] ?_; generalize hK : VS _ _ _ = KK; simp; (try subst hK)))
    refine nextK.of [3, 5, 6, 7, 8] [0, 1, 2] (m - 1) (by omega) (by simp [hF]) ?_
    refine ⟨c + 1, by omega, ?_⟩
    simp [dL, dDeed, hsucc]
    exact IntWalk.i64_in _ (by omega)
  · obtain rfl : c = L.length := by omega
    repeat first
      | refine VS.seq ?_
      | refine VS.exit ?_
      | (refine VS.keepAt 9 [3, 5, 6, 7] ?_; generalize hK : VS _ _ _ = KK; (try simp); (try subst hK); refine VS.region tabOk (id := 9) [] (by kernel_rfl) ?_; generalize hK : VS _ _ _ = KK; simp (maxSteps := 1000000) [hF, dDeed]; (try subst hK); try (refine VS.keep [5, 6, 7, 12] ?_; generalize hK : VS _ _ _ = KK; simp; (try subst hK)))
    refine (do_ok hok d).call [(1, [])] (by simp) (by simp (maxSteps := 1000000) [hF, dL, avDeed]) (by simp (maxSteps := 1000000) [hF, dL, avDeed]) (by simp (maxSteps := 1000000) [hF, dL, avDeed]) (by simp) ?_
    rintro av X κ ⟨rfl, rfl, rfl⟩
    generalize hK : VS _ _ _ = KK; simp (maxSteps := 1000000) [hF, dL, avDeed]; (try subst hK)
    by_cases he : (doOf L d).2.2 = 0
    · repeat first
        | refine VS.seq ?_
        | (refine VS.keepAt 10 [5, 6, 7, 12] ?_; generalize hK : VS _ _ _ = KK; (try simp); (try subst hK); refine VS.region tabOk (id := 10) [] (by kernel_rfl) ?_; generalize hK : VS _ _ _ = KK; simp (maxSteps := 1000000) [hF, he]; (try subst hK); try (refine VS.keep [5, 6, 7, 42] ?_; generalize hK : VS _ _ _ = KK; simp; (try subst hK)))
        | (refine VS.keepAt 11 [] ?_; generalize hK : VS _ _ _ = KK; (try simp); (try subst hK); refine VS.region tabOk (id := 11) [] (by kernel_rfl) ?_; generalize hK : VS _ _ _ = KK; simp (maxSteps := 1000000) [hF, he]; (try subst hK); try (refine VS.keep [4] ?_; generalize hK : VS _ _ _ = KK; simp; (try subst hK)))
        | (refine VS.cond ?_; generalize hK1 : VS _ _ _ = KK1; generalize hK2 : VS _ _ _ = KK2; simp (maxSteps := 1000000) [hF, he]; (try subst hK1); (try subst hK2))
      refine (sane_ok).call [] (by simp) (by simp (maxSteps := 1000000) [hF]) (by simp (maxSteps := 1000000) [hF]) (by simp (maxSteps := 1000000) [hF]) (by simp) ?_
      rintro av X κ ⟨rfl, rfl, rfl⟩
      generalize hK : VS _ _ _ = KK; simp (maxSteps := 1000000) [hF]; (try subst hK)
      try refine VS.ret ?_
      repeat first | refine blockN_ret ?_ | refine loopN_ret ?_
      refine endK.of [4] [] [] (by simp [hF]) (by simp [covers, mpre]) ?_
      simp [hF, retK]
    · have hsame := n3 he
      repeat first
        | refine VS.seq ?_
        | refine VS.skip ?_
        | (refine VS.keepAt 10 [5, 6, 7, 12] ?_; generalize hK : VS _ _ _ = KK; (try simp); (try subst hK); refine VS.region tabOk (id := 10) [] (by kernel_rfl) ?_; generalize hK : VS _ _ _ = KK; simp (maxSteps := 1000000) [hF, he, hsame]; (try subst hK); try (refine VS.keep [5, 6, 7, 42] ?_; generalize hK : VS _ _ _ = KK; simp; (try subst hK)))
        | (refine VS.keepAt 12 [5, 6, 7] ?_; generalize hK : VS _ _ _ = KK; (try simp); (try subst hK); refine VS.region tabOk (id := 12) [] (by kernel_rfl) ?_; generalize hK : VS _ _ _ = KK; simp (maxSteps := 1000000) [hF, he, hsame]; (try subst hK); try (refine VS.keep [5, 6, 7, 47] ?_; generalize hK : VS _ _ _ = KK; simp; (try subst hK)))
        | (refine VS.cond ?_; generalize hK1 : VS _ _ _ = KK1; generalize hK2 : VS _ _ _ = KK2; simp (maxSteps := 1000000) [hF, he, hsame]; (try subst hK1); (try subst hK2))
      refine (len_ok L hl).call [(1, [])] (by simp) (by simp (maxSteps := 1000000) [hF, dL]) (by simp (maxSteps := 1000000) [hF, dL]) (by simp (maxSteps := 1000000) [hF, dL]) (by simp) ?_
      rintro av X κ ⟨rfl, rfl, rfl⟩
      generalize hK : VS _ _ _ = KK; simp (maxSteps := 1000000) [hF, dL]; (try subst hK)
      repeat first
        | refine VS.seq ?_
        | refine VS.skip ?_
        | refine VS.block ?_
        | (refine VS.keepAt 14 [5, 6, 7] ?_; generalize hK : VS _ _ _ = KK; (try simp); (try subst hK); refine VS.region tabOk (id := 14) [] (by kernel_rfl) ?_; generalize hK : VS _ _ _ = KK; simp (maxSteps := 1000000) [hF]; (try subst hK); try (refine VS.keep [5, 6, 7, 13] ?_; generalize hK : VS _ _ _ = KK; simp; (try subst hK)))
        | (refine VS.cond ?_; generalize hK1 : VS _ _ _ = KK1; generalize hK2 : VS _ _ _ = KK2; simp (maxSteps := 1000000) [hF]; (try subst hK1); (try subst hK2))
      refine VS.pick [5, 6, 7, 13] [1, 2] (by simp [hF]) ?_
      generalize hK : VS _ _ _ = KK; simp [hF]; (try subst hK)
      refine VS.rounds (fun m st => ∃ (c : Nat), c + m = L.length ∧ st = ⟨[(5, .ptr 0 [.d]), (6, avInt L.length), (7, .sub 1 [] 0 L.length false), (13, avInt c)], [dL L, .sl true () 1 (dLs (ordsTo L L.length))], [], []⟩)
        ⟨L.length, 0, by omega, by simp [dL]⟩ ?_
      rintro m st ⟨c, hc, rfl⟩
      repeat first
        | refine VS.seq ?_
        | (refine VS.keepAt 15 [5, 6, 7, 13] ?_; generalize hK : VS _ _ _ = KK; (try simp); (try subst hK); refine VS.region tabOk (id := 15) [] (by kernel_rfl) ?_; generalize hK : VS _ _ _ = KK; simp (maxSteps := 1000000) [hF]; (try subst hK); try (refine VS.keep [5, 6, 7, 13, 50] ?_; generalize hK : VS _ _ _ = KK; simp; (try subst hK)))
        | (refine VS.cond ?_; generalize hK1 : VS _ _ _ = KK1; generalize hK2 : VS _ _ _ = KK2; simp (maxSteps := 1000000) [hF]; (try subst hK1); (try subst hK2))
      refine ⟨fun hlt => ?_, fun hge => ?_⟩
      · have hcl : c < L.length := by omega
        have hol : (ordL L c).length ≤ 1000 := hok.wf.base.elim fun _ B => ord_len B hcl (hok.wf.ord hcl)
        have hcl2 : c < (ordsTo L L.length).length := by rw [ordsTo_len]; exact hcl
        have hn := dLs_nth hcl2
        rw [ordsTo_at hcl2] at hn
        have hln := ordsTo_len L L.length
        repeat first
          | refine VS.seq ?_
          | refine VS.skip ?_
          | refine VS.block ?_
          | (refine VS.keepAt 17 [5, 6, 7, 13] ?_; generalize hK : VS _ _ _ = KK; (try simp); (try subst hK); refine VS.region tabOk (id := 17) [] (by kernel_rfl) ?_; generalize hK : VS _ _ _ = KK; simp (maxSteps := 1000000) [hF]; (try subst hK); try (refine VS.keep [5, 6, 7, 13, 14] ?_; generalize hK : VS _ _ _ = KK; simp; (try subst hK)))
        refine (Order_yes hok.wf c hcl).call [(0, [])] (by simp) (by simp (maxSteps := 1000000) [hF, dL]) (by simp (maxSteps := 1000000) [hF, dL]) (by simp (maxSteps := 1000000) [hF, dL]) (by simp) ?_
        rintro av X κ ⟨rfl, rfl, rfl⟩
        generalize hK : VS _ _ _ = KK; simp (maxSteps := 1000000) [hF, dL]; (try subst hK)
        repeat first
          | refine VS.seq ?_
          | (refine VS.keepAt 18 [5, 6, 7, 13, 14] ?_; generalize hK : VS _ _ _ = KK; (try simp); (try subst hK); refine VS.region tabOk (id := 18) [] (by kernel_rfl) ?_; generalize hK : VS _ _ _ = KK; simp (maxSteps := 1000000) [hF, hn, hcl, hcl2, hln]; (try subst hK); try (refine VS.keep [5, 6, 7, 13, 65] ?_; generalize hK : VS _ _ _ = KK; simp; (try subst hK)))
        refine (same_ii false false (ordL L c) (ordL L c) (by omega)).call [] (by simp) (by simp (maxSteps := 1000000) [hF]) (by simp (maxSteps := 1000000) [hF]) (by simp (maxSteps := 1000000) [hF]) (by simp) ?_
        rintro av X κ ⟨rfl, rfl, rfl⟩
        generalize hK : VS _ _ _ = KK; simp (maxSteps := 1000000) [hF]; (try subst hK)
        repeat first
          | refine VS.skip ?_
          | refine VS.nil ?_
          | refine blockN_normal ?_
          | refine loopN_normal ?_
          | (refine VS.keepAt 16 [5, 6, 7, 13] ?_; generalize hK : VS _ _ _ = KK; (try simp); (try subst hK); refine VS.region tabOk (id := 16) [] (by kernel_rfl) ?_; generalize hK : VS _ _ _ = KK; simp (maxSteps := 1000000) [hF]; (try subst hK); try (refine VS.keep [5, 6, 7, 13] ?_; generalize hK : VS _ _ _ = KK; simp; (try subst hK)))
          | (refine VS.cond ?_; generalize hK1 : VS _ _ _ = KK1; generalize hK2 : VS _ _ _ = KK2; simp (maxSteps := 1000000) [hF]; (try subst hK1); (try subst hK2))
        refine nextK.of [5, 6, 7, 13] [0, 1] (m - 1) (by omega) (by simp [hF]) ?_
        refine ⟨c + 1, by omega, ?_⟩
        simp [dL]
        exact IntWalk.i64_in _ (by omega)
      · repeat first
          | refine VS.seq ?_
          | refine VS.exit ?_
          | (refine VS.keepAt 20 [] ?_; generalize hK : VS _ _ _ = KK; (try simp); (try subst hK); refine VS.region tabOk (id := 20) [] (by kernel_rfl) ?_; generalize hK : VS _ _ _ = KK; simp (maxSteps := 1000000) [hF]; (try subst hK); try (refine VS.keep [4] ?_; generalize hK : VS _ _ _ = KK; simp; (try subst hK)))
        refine (sane_ok).call [] (by simp) (by simp (maxSteps := 1000000) [hF]) (by simp (maxSteps := 1000000) [hF]) (by simp (maxSteps := 1000000) [hF]) (by simp) ?_
        rintro av X κ ⟨rfl, rfl, rfl⟩
        generalize hK : VS _ _ _ = KK; simp (maxSteps := 1000000) [hF]; (try subst hK)
        try refine VS.ret ?_
        repeat first | refine blockN_ret ?_ | refine loopN_ret ?_
        refine endK.of [4] [] [] (by simp [hF]) (by simp [covers, mpre]) ?_
        simp [hF, retK]
end Go.Proofs.Ytahgopdamgagkaa

/- Proved: LineageRefused returns true for every input, and its arguments read behind the call as before. No condition. -/
namespace Go.Proofs.Ytahgopdamgagkaa.lineageRefused
set_option linter.all false
open Go.Vc Go.ChangeShapes Go.WideShapes Go.ChangeAt Go.RowKit
set_option linter.unusedVariables false

theorem own : ownKnob Try.prog.godebug = none := by kernel_rfl
theorem laid : laidOutB Try.prog = true := by kernel_rfl

set_option maxRecDepth 100000 in
theorem lifted (os : Os) (started : os.Started) (H : Type) (enc : TypeId × Value → H) :
    ReturnsInHanded {} Try.checked os 4 .any (Rows.lineageRefusedSpec.pre6 enc Try.prog Try.f4 Rows.lineageRefusedRow.domain false) (Rows.lineageRefusedSpec.post enc Try.prog Try.f4 false true false false) := by
  refine returnsInHanded_of_change (C := Try.checked) own started (by kernel_rfl) Try.func4
    (ChangeSpec.witness6 (enc := enc) (C := Try.checked) false ⟨#[], #[.slice none 0 0, .agg #[.int .i64 0, .int .i64 0, .int .i64 0]], []⟩ 8 (by kernel_rfl) (by kernel_rfl) (by kernel_rfl) (by kernel_rfl)) ?_
  intro W base args ds gs before hval0 hW hcnd _
  have hval : ∀ (j : Nat) t v, Try.f4.params[j]? = some t → args[j]? = some v → Value.okWide Try.prog W .any base t v := hval0
  have hW' := hW
  obtain ⟨p, q, hA0, hV, rfl, hfz, hnd⟩ := hW
  have hA : DataW.TrodAll enc Try.prog W 0 (fun _ => true) true Try.f4.params.toList args.toList ds p := hA0
  rw [Try.params4] at hA hval
  obtain ⟨v0, vs0, d0, ds0, p0, q0, hargs0, rfl, rfl, h0, r0⟩ := trodAll_cons hA
  obtain ⟨v1, vs1, d1, ds1, p1, q1, hargs1, rfl, rfl, h1, r1⟩ := trodAll_cons r0
  obtain ⟨rfl, rfl, rfl⟩ := trodAll_nil r1
  subst hargs1
  obtain rfl : args = #[v0, v1] := by cases args; simp_all
  obtain ⟨rfl, rfl⟩ := trodVars_none hV
  obtain ⟨a0, hlen0, hr0⟩ := deeds_of (hval 0 22 v0 rfl rfl) h0
  obtain ⟨a1, hr1⟩ := deed_of (hval 1 34 v1 rfl rfl) h1
  clear hA0 hval0
  have hwalk : Calls Try.prog 4 #[v0, v1] W fun e w' => e = .returned (.bool true) ∧ Below W.heap.size W w' :=
    Meets.law (refused_ok false a0 a1) (vs := [v0, v1]) (I := allB W) (fun _ h => h) ⟨v0, _, rfl, hr0, ⟨v1, _, rfl, hr1, rfl⟩⟩
  refine hwalk.mono fun e W' ⟨he, bel⟩ => ?_
  subst he
  exact ⟨_, rfl, _, _, _, [], _, [], hW', trodAll_mk1 (shut_bool Try.underlying4 _), (trodAll_cons_mk (Below.trod laid (by kernel_rfl) (of_decide_eq_true (by kernel_rfl)) h0 bel fun x hx => hW'.lt x (by simp [hx])) (trodAll_cons_mk (Below.trod laid (by kernel_rfl) (of_decide_eq_true (by kernel_rfl)) h1 bel fun x hx => hW'.lt x (by simp [hx])) trodAll_mk0)), rfl, bel.frame _, fun h => by cases h⟩

theorem over : Rows.lineageRefusedRow.holds Try.pinned (OpenSpec.ofChange Rows.lineageRefusedSpec) :=
  OpenClaim.holds_of_wide 4 Try.f4 rfl rfl rfl rfl rfl rfl rfl ⟨rfl, rfl, rfl, rfl, rfl⟩ rfl rfl rfl rfl rfl (by kernel_rfl) Try.func4 (by kernel_rfl)
    (of_decide_eq_true (by kernel_rfl)) (by unfold Func.isWrapper; first | (rw [if_pos (by decide +kernel)]; kernel_rfl) | (rw [if_neg (by decide +kernel)]; exact ⟨rfl, rfl⟩))
    (fun os started H enc _ => lifted os started H enc)

/-- THE STATEMENT -/
theorem proved : Rows.LineageRefusedSaid :=
  over
end Go.Proofs.Ytahgopdamgagkaa.lineageRefused
