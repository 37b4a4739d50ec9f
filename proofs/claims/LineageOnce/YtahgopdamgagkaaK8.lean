/- LineageOnce: nothing stands twice in an order. -/
import Derived.Test.YtahgopdamgagkaaK6
import Derived.Test.YtahgopdamgagkaaRows
import Derived.Test.YtahgopdamgagkaaK7
import Derived.WalkKit
import Derived.ProofKit
import Derived.OpenShut
import Derived.ShutString
import Derived.ChangeOld
import Derived.Carry
namespace Go.Proofs.Ytahgopdamgagkaa
set_option linter.all false
open Go.Vc Go.Proofs
set_option linter.unusedSimpArgs false
set_option linter.unusedVariables false
set_option maxRecDepth 100000
set_option maxHeartbeats 4000000
attribute [local irreducible] CallW EqK

def cntOf (o : List Int) (c : Int) : Nat := (o.filter fun x => decide (x = c)).length
theorem cntOf_one {o : List Int} {c : Int} (hn : o.Nodup) (hm : c ∈ o) : cntOf o c = 1 := by
  induction o with
  | nil => cases hm
  | cons a l ih =>
    obtain ⟨h1, h2⟩ := List.nodup_cons.1 hn
    unfold cntOf
    by_cases e : a = c
    · subst e
      have : l.filter (fun x => decide (x = a)) = [] := List.filter_eq_nil_iff.2 fun x hx => by
        have : x ≠ a := fun e => h1 (e ▸ hx)
        simpa using this
      simp [this]
    · rcases List.mem_cons.1 hm with h | h
      · exact absurd h.symm e
      · have := ih h2 h
        unfold cntOf at this
        simp [e, this]
theorem cntOf_take {o : List Int} {c : Int} {i : Nat} (h : i < o.length) : cntOf (o.take (i + 1)) c = cntOf (o.take i) c + if o[i] = c then 1 else 0 := by
  rw [List.take_add_one, List.getElem?_eq_getElem h]
  simp only [cntOf, Option.toList_some, List.filter_append, List.length_append]
  by_cases e : o[i] = c <;> simp [e]
theorem nodup_take {o : List Int} (hn : o.Nodup) {i : Nat} (h : i < o.length) : hasN (o.take i) o[i] = false := by
  cases e : hasN (o.take i) o[i] with
  | false => rfl
  | true =>
    obtain ⟨j, hj, he⟩ := List.getElem_of_mem (hasN_iff.1 e)
    rw [List.length_take] at hj
    rw [List.getElem_take] at he
    have := (List.getElem_inj hn).1 he
    omega
theorem cntOf_le (o : List Int) (c : Int) : cntOf o c ≤ o.length := List.length_filter_le _ _

/- cabochon/cabochonlaw18.LineageOnce -/
theorem once_ok (ex : Bool) (l : List Deed) : Meets Try.prog 3 [] (.cons (.imm 3 (dDeeds l) ex) .nil) fun av X κ => av = .val (.bool true) := by
  obtain ⟨hok, hpos⟩ := playedOf_OK l
  have hl := hok.len
  refine Meets.of_vs tabOk Try.func3 (body := ?_) ?_ (by kernel_rfl) Try.ntmps3 (rs := [.tmp 2]) (by kernel_rfl) rfl (by simp [AV.len]) (by simp only [envOf]; exact rfl) ?_
  rotate_left
  · rfl
  intro w0 I0 F0 hF
  repeat first
    | refine VS.seq ?_
    | (refine VS.keepAt 0 [0] ?_; generalize hK : VS _ _ _ = KK; (try simp); (try subst hK); refine VS.region tabOk (id := 0) [] (by kernel_rfl) ?_; generalize hK : VS _ _ _ = KK; simp (maxSteps := 1000000) [hF]; (try subst hK); try (refine VS.keep [0] ?_; generalize hK : VS _ _ _ = KK; simp; (try subst hK)))
    | (refine VS.keepAt 1 [0] ?_; generalize hK : VS _ _ _ = KK; (try simp); (try subst hK); refine VS.region tabOk (id := 1) [] (by kernel_rfl) ?_; generalize hK : VS _ _ _ = KK; simp (maxSteps := 1000000) [hF]; (try subst hK); try (refine VS.keep [3] ?_; generalize hK : VS _ _ _ = KK; simp; (try subst hK)))
  refine (played_ok ex l).call [] (by simp) (by simp (maxSteps := 1000000) [hF]) (by simp (maxSteps := 1000000) [hF]) (by simp (maxSteps := 1000000) [hF]) (by simp) ?_
  rintro av X κ ⟨rfl, rfl, rfl⟩
  generalize hK : VS _ _ _ = KK; simp (maxSteps := 1000000) [hF]; (try subst hK)
  generalize playedOf l = L at *
  repeat first
    | refine VS.seq ?_
    | refine VS.block ?_
    | (refine VS.keepAt 2 [3] ?_; generalize hK : VS _ _ _ = KK; (try simp); (try subst hK); refine VS.region tabOk (id := 2) [] (by kernel_rfl) ?_; generalize hK : VS _ _ _ = KK; simp (maxSteps := 1000000) [hF]; (try subst hK); try (refine VS.keep [3, 4] ?_; generalize hK : VS _ _ _ = KK; simp; (try subst hK)))
  refine VS.rounds (fun m st => ∃ (c : Nat), c + m = L.length ∧ st = ⟨[(3, .ptr 0 [.d]), (4, avInt c)], [dL L], [], []⟩) ⟨L.length, 0, by omega, by simp [dL]⟩ ?_
  rintro m st ⟨c, hc, rfl⟩
  repeat first
    | refine VS.seq ?_
    | (refine VS.keepAt 3 [3, 4] ?_; generalize hK : VS _ _ _ = KK; (try simp); (try subst hK); refine VS.region tabOk (id := 3) [] (by kernel_rfl) ?_; generalize hK : VS _ _ _ = KK; simp (maxSteps := 1000000) [hF]; (try subst hK); try (refine VS.keep [3, 4, 14] ?_; generalize hK : VS _ _ _ = KK; simp; (try subst hK)))
  refine (len_ok L hl).call [(0, [])] (by simp) (by simp (maxSteps := 1000000) [hF, dL]) (by simp (maxSteps := 1000000) [hF, dL]) (by simp (maxSteps := 1000000) [hF, dL]) (by simp) ?_
  rintro av X κ ⟨rfl, rfl, rfl⟩
  generalize hK : VS _ _ _ = KK; simp (maxSteps := 1000000) [hF, dL]; (try subst hK)
  repeat first
    | (refine VS.cond ?_; generalize hK1 : VS _ _ _ = KK1; generalize hK2 : VS _ _ _ = KK2; simp (maxSteps := 1000000) [hF]; (try subst hK1); (try subst hK2))
  refine ⟨fun hlt => ?_, fun hge => ?_⟩
  · have hcl : c < L.length := by omega
    obtain ⟨o1, o2, o3⟩ := ordL_spec hok.wf hcl
    have hol : (ordL L c).length ≤ 1000 := hok.wf.base.elim fun _ B => ord_len B hcl (hok.wf.ord hcl)
    repeat first
      | refine VS.seq ?_
      | refine VS.skip ?_
      | refine VS.block ?_
      | (refine VS.keepAt 5 [3, 4] ?_; generalize hK : VS _ _ _ = KK; (try simp); (try subst hK); refine VS.region tabOk (id := 5) [] (by kernel_rfl) ?_; generalize hK : VS _ _ _ = KK; simp (maxSteps := 1000000) [hF]; (try subst hK); try (refine VS.keep [3, 4, 5, 6] ?_; generalize hK : VS _ _ _ = KK; simp; (try subst hK)))
    refine (Order_yes hok.wf c hcl).call [(0, [])] (by simp) (by simp (maxSteps := 1000000) [hF, dL]) (by simp (maxSteps := 1000000) [hF, dL]) (by simp (maxSteps := 1000000) [hF, dL]) (by simp) ?_
    rintro av X κ ⟨rfl, rfl, rfl⟩
    generalize hK : VS _ _ _ = KK; simp (maxSteps := 1000000) [hF, dL]; (try subst hK)
    generalize ordL L c = o at *
    repeat first
      | refine VS.seq ?_
      | refine VS.skip ?_
      | refine VS.block ?_
      | (refine VS.keepAt 6 [3, 4, 5, 6] ?_; generalize hK : VS _ _ _ = KK; (try simp); (try subst hK); refine VS.region tabOk (id := 6) [] (by kernel_rfl) ?_; generalize hK : VS _ _ _ = KK; simp (maxSteps := 1000000) [hF]; (try subst hK); try (refine VS.keep [3, 4, 5, 24] ?_; generalize hK : VS _ _ _ = KK; simp; (try subst hK)))
      | (refine VS.keepAt 8 [3, 4, 5] ?_; generalize hK : VS _ _ _ = KK; (try simp); (try subst hK); refine VS.region tabOk (id := 8) [] (by kernel_rfl) ?_; generalize hK : VS _ _ _ = KK; simp (maxSteps := 1000000) [hF]; (try subst hK); try (refine VS.keep [3, 4, 5, 7] ?_; generalize hK : VS _ _ _ = KK; simp; (try subst hK)))
      | (refine VS.keepAt 9 [3, 4, 5, 7] ?_; generalize hK : VS _ _ _ = KK; (try simp); (try subst hK); refine VS.region tabOk (id := 9) [] (by kernel_rfl) ?_; generalize hK : VS _ _ _ = KK; simp (maxSteps := 1000000) [hF]; (try subst hK); try (refine VS.keep [3, 4, 5, 7, 8] ?_; generalize hK : VS _ _ _ = KK; simp; (try subst hK)))
      | (refine VS.cond ?_; generalize hK1 : VS _ _ _ = KK1; generalize hK2 : VS _ _ _ = KK2; simp (maxSteps := 1000000) [hF]; (try subst hK1); (try subst hK2))
    refine VS.pick [3, 4, 5, 7, 8] [0] (by simp [hF]) ?_
    generalize hK : VS _ _ _ = KK; simp [hF]; (try subst hK)
    refine VS.rounds (fun n st => ∃ (i : Nat), i + n = o.length ∧ st = ⟨[(3, .ptr 0 [.d]), (4, avInt c), (5, .imm 1 (dInts o) false), (7, avInt (cntOf (o.take i) c)), (8, avInt i)], [dL L], [], []⟩) ⟨o.length, 0, by omega, by simp [dL, cntOf]⟩ ?_
    rintro n st ⟨i, hi, rfl⟩
    repeat first
      | refine VS.seq ?_
      | (refine VS.keepAt 10 [3, 4, 5, 7, 8] ?_; generalize hK : VS _ _ _ = KK; (try simp); (try subst hK); refine VS.region tabOk (id := 10) [] (by kernel_rfl) ?_; generalize hK : VS _ _ _ = KK; simp (maxSteps := 1000000) [hF]; (try subst hK); try (refine VS.keep [3, 4, 5, 7, 8, 28] ?_; generalize hK : VS _ _ _ = KK; simp; (try subst hK)))
      | (refine VS.cond ?_; generalize hK1 : VS _ _ _ = KK1; generalize hK2 : VS _ _ _ = KK2; simp (maxSteps := 1000000) [hF]; (try subst hK1); (try subst hK2))
    refine ⟨fun hlt2 => ?_, fun hge2 => ?_⟩
    · have hil : i < o.length := by omega
      have hn := dInts_nth hil
      have htk := cntOf_take (c := (c : Int)) hil
      have hno := nodup_take o1 hil
      have hmid : (dInts o).mid 0 i = dInts (o.take i) := by rw [dInts_mid, List.drop_zero]
      have hle := cntOf_le (o.take i) c
      have hle2 : (o.take i).length ≤ o.length := by rw [List.length_take]; omega
      have b1 : (i : Int) ≤ o.length := by omega
      have b2 : i ≤ o.length := by omega
      repeat first
        | refine VS.seq ?_
        | refine VS.skip ?_
        | refine VS.block ?_
        | (refine VS.keepAt 12 [3, 4, 5, 7, 8] ?_; generalize hK : VS _ _ _ = KK; (try simp); (try subst hK); refine VS.region tabOk (id := 12) [] (by kernel_rfl) ?_; generalize hK : VS _ _ _ = KK; simp (maxSteps := 1000000) [hF, hn, hil]; (try subst hK); try (refine VS.keep [3, 4, 5, 7, 8, 36] ?_; generalize hK : VS _ _ _ = KK; simp; (try subst hK)))
        | (refine VS.cond ?_; generalize hK1 : VS _ _ _ = KK1; generalize hK2 : VS _ _ _ = KK2; simp (maxSteps := 1000000) [hF, hn, hil]; (try subst hK1); (try subst hK2))
      refine ⟨fun he => ?_, fun he => ?_⟩
      · rw [if_pos he] at htk
        repeat first
          | refine VS.seq ?_
          | (refine VS.keepAt 13 [3, 4, 5, 7, 8] ?_; generalize hK : VS _ _ _ = KK; (try simp); (try subst hK); refine VS.region tabOk (id := 13) [] (by kernel_rfl) ?_; generalize hK : VS _ _ _ = KK; simp (maxSteps := 1000000) [hF, hn, hil, hmid, b1, b2]; (try subst hK); try (refine VS.keep [3, 4, 5, 7, 8] ?_; generalize hK : VS _ _ _ = KK; simp; (try subst hK)))
          | (refine VS.keepAt 14 [3, 4, 5, 7, 8] ?_; generalize hK : VS _ _ _ = KK; (try simp); (try subst hK); refine VS.drawn tabOk mixedOk (id := 14) [] [⟨0, 32, 549755813888, 5⟩, ⟨0, 256, 1099511627776, 5⟩, ⟨3, 1649267441664, 2199023255552, 5⟩, ⟨0, 32, 4398046511104, 5⟩, ⟨0, 256, 8796093022208, 5⟩, ⟨24, 13194139533312, 17592186044416, 5⟩, ⟨32, 17592186044416, 35184372088832, 6⟩, ⟨68, 37383395344384, 70368744177664, 0⟩] (.take 0 (.take 1 (.take 2 (.take 3 (.take 4 (.take 5 (.take 6 (.fork (.alt 7 (.done) (.nil)))))))))) (.run [0, 1, 2, 3, 4, 5, 6, 7] (.done)) (by kernel_rfl) (by kernel_rfl) (by kernel_rfl) ?_; generalize hK : VS _ _ _ = KK; simp only [opsVc_run, opsVc_both, opsVc_chk, opsVc_done, opsVc_yes, pick_cons, pick_nil, List.getElem?_cons_zero, List.getElem?_cons_succ]; simp (maxSteps := 1000000) [hF, hn, hil, hmid, b1, b2]; (try subst hK); try (refine VS.keep [3, 4, 5, 7, 8, 46] ?_; generalize hK : VS _ _ _ = KK; simp; (try subst hK)))
        refine (has_ok false (o.take i) o[i] (by simp; omega)).call [] (by simp) (by simp (maxSteps := 1000000) [hF, hno]) (by simp (maxSteps := 1000000) [hF, hno]) (by simp (maxSteps := 1000000) [hF, hno]) (by simp) ?_
        rintro av X κ ⟨rfl, rfl, rfl⟩
        generalize hK : VS _ _ _ = KK; simp (maxSteps := 1000000) [hF, hno]; (try subst hK)
        repeat first
          | refine VS.skip ?_
          | refine VS.nil ?_
          | refine blockN_normal ?_
          | refine loopN_normal ?_
          | (refine VS.keepAt 11 [3, 4, 5, 7, 8] ?_; generalize hK : VS _ _ _ = KK; (try simp); (try subst hK); refine VS.region tabOk (id := 11) [] (by kernel_rfl) ?_; generalize hK : VS _ _ _ = KK; simp (maxSteps := 1000000) [hF]; (try subst hK); try (refine VS.keep [3, 4, 5, 7, 8] ?_; generalize hK : VS _ _ _ = KK; simp; (try subst hK)))
          | (refine VS.cond ?_; generalize hK1 : VS _ _ _ = KK1; generalize hK2 : VS _ _ _ = KK2; simp (maxSteps := 1000000) [hF]; (try subst hK1); (try subst hK2))
        refine nextK.of [3, 4, 5, 7, 8] [0] (n - 1) (by omega) (by simp [hF]) ?_
        refine ⟨i + 1, by omega, ?_⟩
        simp [htk, dL]
        exact ⟨IntWalk.i64_in _ (by omega), IntWalk.i64_in _ (by omega)⟩
      · rw [if_neg he] at htk
        repeat first
          | refine VS.seq ?_
          | refine VS.skip ?_
          | (refine VS.keepAt 14 [3, 4, 5, 7, 8] ?_; generalize hK : VS _ _ _ = KK; (try simp); (try subst hK); refine VS.drawn tabOk mixedOk (id := 14) [] [⟨0, 32, 549755813888, 5⟩, ⟨0, 256, 1099511627776, 5⟩, ⟨3, 1649267441664, 2199023255552, 5⟩, ⟨0, 32, 4398046511104, 5⟩, ⟨0, 256, 8796093022208, 5⟩, ⟨24, 13194139533312, 17592186044416, 5⟩, ⟨32, 17592186044416, 35184372088832, 6⟩, ⟨68, 37383395344384, 70368744177664, 0⟩] (.take 0 (.take 1 (.take 2 (.take 3 (.take 4 (.take 5 (.take 6 (.fork (.alt 7 (.done) (.nil)))))))))) (.run [0, 1, 2, 3, 4, 5, 6, 7] (.done)) (by kernel_rfl) (by kernel_rfl) (by kernel_rfl) ?_; generalize hK : VS _ _ _ = KK; simp only [opsVc_run, opsVc_both, opsVc_chk, opsVc_done, opsVc_yes, pick_cons, pick_nil, List.getElem?_cons_zero, List.getElem?_cons_succ]; simp (maxSteps := 1000000) [hF, hn, hil, hmid, b1, b2]; (try subst hK); try (refine VS.keep [3, 4, 5, 7, 8, 46] ?_; generalize hK : VS _ _ _ = KK; simp; (try subst hK)))
        refine (has_ok false (o.take i) o[i] (by simp; omega)).call [] (by simp) (by simp (maxSteps := 1000000) [hF, hno]) (by simp (maxSteps := 1000000) [hF, hno]) (by simp (maxSteps := 1000000) [hF, hno]) (by simp) ?_
        rintro av X κ ⟨rfl, rfl, rfl⟩
        generalize hK : VS _ _ _ = KK; simp (maxSteps := 1000000) [hF, hno]; (try subst hK)
        repeat first
          | refine VS.skip ?_
          | refine VS.nil ?_
          | refine blockN_normal ?_
          | refine loopN_normal ?_
          | (refine VS.keepAt 11 [3, 4, 5, 7, 8] ?_; generalize hK : VS _ _ _ = KK; (try simp); (try subst hK); refine VS.region tabOk (id := 11) [] (by kernel_rfl) ?_; generalize hK : VS _ _ _ = KK; simp (maxSteps := 1000000) [hF]; (try subst hK); try (refine VS.keep [3, 4, 5, 7, 8] ?_; generalize hK : VS _ _ _ = KK; simp; (try subst hK)))
          | (refine VS.cond ?_; generalize hK1 : VS _ _ _ = KK1; generalize hK2 : VS _ _ _ = KK2; simp (maxSteps := 1000000) [hF]; (try subst hK1); (try subst hK2))
        refine nextK.of [3, 4, 5, 7, 8] [0] (n - 1) (by omega) (by simp [hF]) ?_
        refine ⟨i + 1, by omega, ?_⟩
        simp [htk, dL]
        exact IntWalk.i64_in _ (by omega)
    · obtain rfl : i = o.length := by omega
      have h1 := cntOf_one o1 o2
      rw [List.take_length, h1]
      repeat first
        | refine VS.seq ?_
        | refine VS.skip ?_
        | refine VS.nil ?_
        | refine blockN_normal ?_
        | refine loopN_normal ?_
        | refine VS.exit ?_
        | (refine VS.keepAt 4 [3, 4] ?_; generalize hK : VS _ _ _ = KK; (try simp); (try subst hK); refine VS.region tabOk (id := 4) [] (by kernel_rfl) ?_; generalize hK : VS _ _ _ = KK; simp (maxSteps := 1000000) [hF]; (try subst hK); try (refine VS.keep [3, 4] ?_; generalize hK : VS _ _ _ = KK; simp; (try subst hK)))
        | (refine VS.keepAt 16 [3, 4, 7] ?_; generalize hK : VS _ _ _ = KK; (try simp); (try subst hK); refine VS.region tabOk (id := 16) [] (by kernel_rfl) ?_; generalize hK : VS _ _ _ = KK; simp (maxSteps := 1000000) [hF]; (try subst hK); try (refine VS.keep [3, 4, 48] ?_; generalize hK : VS _ _ _ = KK; simp; (try subst hK)))
        | (refine VS.cond ?_; generalize hK1 : VS _ _ _ = KK1; generalize hK2 : VS _ _ _ = KK2; simp (maxSteps := 1000000) [hF]; (try subst hK1); (try subst hK2))
      refine nextK.of [3, 4] [0] (m - 1) (by omega) (by simp [hF]) ?_
      refine ⟨c + 1, by omega, ?_⟩
      simp [dL]
      exact IntWalk.i64_in _ (by omega)
  · repeat first
      | refine VS.seq ?_
      | refine VS.exit ?_
      | (refine VS.keepAt 18 [] ?_; generalize hK : VS _ _ _ = KK; (try simp); (try subst hK); refine VS.region tabOk (id := 18) [] (by kernel_rfl) ?_; generalize hK : VS _ _ _ = KK; simp (maxSteps := 1000000) [hF]; (try subst hK); try (refine VS.keep [2] ?_; generalize hK : VS _ _ _ = KK; simp; (try subst hK)))
    refine (sane_ok).call [] (by simp) (by simp (maxSteps := 1000000) [hF]) (by simp (maxSteps := 1000000) [hF]) (by simp (maxSteps := 1000000) [hF]) (by simp) ?_
    rintro av X κ ⟨rfl, rfl, rfl⟩
    generalize hK : VS _ _ _ = KK; simp (maxSteps := 1000000) [hF]; (try subst hK)
    try refine VS.ret ?_
    repeat first | refine blockN_ret ?_ | refine loopN_ret ?_
    refine endK.of [2] [] [] (by simp [hF]) (by simp [covers, mpre]) ?_
    simp [hF, retK]
end Go.Proofs.Ytahgopdamgagkaa

/- Proved: LineageOnce returns true for every input, and its arguments read behind the call as before. No condition. -/
namespace Go.Proofs.Ytahgopdamgagkaa.lineageOnce
set_option linter.all false
open Go.Vc Go.ChangeShapes Go.WideShapes Go.ChangeAt Go.RowKit
set_option linter.unusedVariables false

theorem own : ownKnob Try.prog.godebug = none := by kernel_rfl
theorem laid : laidOutB Try.prog = true := by kernel_rfl

set_option maxRecDepth 100000 in
theorem lifted (os : Os) (started : os.Started) (H : Type) (enc : TypeId × Value → H) :
    ReturnsInHanded {} Try.checked os 3 .any (Rows.lineageOnceSpec.pre6 enc Try.prog Try.f3 Rows.lineageOnceRow.domain false) (Rows.lineageOnceSpec.post enc Try.prog Try.f3 false true false false) := by
  refine returnsInHanded_of_change (C := Try.checked) own started (by kernel_rfl) Try.func3
    (ChangeSpec.witness6 (enc := enc) (C := Try.checked) false ⟨#[], #[.slice none 0 0], []⟩ 8 (by kernel_rfl) (by kernel_rfl) (by kernel_rfl) (by kernel_rfl)) ?_
  intro W base args ds gs before hval0 hW hcnd _
  have hval : ∀ (j : Nat) t v, Try.f3.params[j]? = some t → args[j]? = some v → Value.okWide Try.prog W .any base t v := hval0
  have hW' := hW
  obtain ⟨p, q, hA0, hV, rfl, hfz, hnd⟩ := hW
  have hA : DataW.TrodAll enc Try.prog W 0 (fun _ => true) true Try.f3.params.toList args.toList ds p := hA0
  rw [Try.params3] at hA hval
  obtain ⟨v0, vs0, d0, ds0, p0, q0, hargs0, rfl, rfl, h0, r0⟩ := trodAll_cons hA
  obtain ⟨rfl, rfl, rfl⟩ := trodAll_nil r0
  obtain rfl : args = #[v0] := by cases args; simp_all
  obtain ⟨rfl, rfl⟩ := trodVars_none hV
  obtain ⟨a0, hlen0, hr0⟩ := deeds_of (hval 0 22 v0 rfl rfl) h0
  clear hA0 hval0
  have hwalk : Calls Try.prog 3 #[v0] W fun e w' => e = .returned (.bool true) ∧ Below W.heap.size W w' :=
    Meets.law (once_ok false a0) (vs := [v0]) (I := allB W) (fun _ h => h) ⟨v0, _, rfl, hr0, rfl⟩
  refine hwalk.mono fun e W' ⟨he, bel⟩ => ?_
  subst he
  exact ⟨_, rfl, _, _, _, [], _, [], hW', trodAll_mk1 (shut_bool Try.underlying4 _), (trodAll_cons_mk (Below.trod laid (by kernel_rfl) (of_decide_eq_true (by kernel_rfl)) h0 bel fun x hx => hW'.lt x (by simp [hx])) trodAll_mk0), rfl, bel.frame _, fun h => by cases h⟩

theorem over : Rows.lineageOnceRow.holds Try.pinned (OpenSpec.ofChange Rows.lineageOnceSpec) :=
  OpenClaim.holds_of_wide 3 Try.f3 rfl rfl rfl rfl rfl rfl rfl ⟨rfl, rfl, rfl, rfl, rfl⟩ rfl rfl rfl rfl rfl (by kernel_rfl) Try.func3 (by kernel_rfl)
    (of_decide_eq_true (by kernel_rfl)) (by unfold Func.isWrapper; first | (rw [if_pos (by decide +kernel)]; kernel_rfl) | (rw [if_neg (by decide +kernel)]; exact ⟨rfl, rfl⟩))
    (fun os started H enc _ => lifted os started H enc)

/-- THE STATEMENT -/
theorem proved : Rows.LineageOnceSaid :=
  over
end Go.Proofs.Ytahgopdamgagkaa.lineageOnce
