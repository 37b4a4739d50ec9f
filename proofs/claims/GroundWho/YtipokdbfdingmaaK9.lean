/- GroundWho. -/
import Derived.Test.YtipokdbfdingmaaK8
import Derived.Test.YtipokdbfdingmaaK7
import Derived.Test.YtipokdbfdingmaaRows
import Derived.WalkKit
import Derived.ProofKit
import Derived.OpenShut
import Derived.ShutString
import Derived.ChangeOld
import Derived.Carry
namespace Go.Proofs.Ytipokdbfdingmaa
set_option linter.all false
open Go.Vc Go.Proofs
set_option linter.unusedSimpArgs false
set_option linter.unusedVariables false
set_option maxRecDepth 100000
set_option maxHeartbeats 4000000
attribute [local irreducible] CallW EqK
def key4 (n : Int) : ByteArray := keyOf (fitN n 4 : Nat) ⟨#[]⟩
theorem key4_ok (n : Int) : isKeyB (key4 n) = true := by
 have h4 := fitN_lt n (n := 4) (by omega)
 have h5 : fitN ((fitN n 4 : Nat) : Int) 5 = fitN n 4 := by
  generalize fitN n 4 = j at *
  have : j = 0 ∨ j = 1 ∨ j = 2 ∨ j = 3 := by omega
  rcases this with rfl | rfl | rfl | rfl <;> decide
 rw [key4, keyOf, h5]
 generalize fitN n 4 = j at *
 have : j = 0 ∨ j = 1 ∨ j = 2 ∨ j = 3 := by omega
 rcases this with rfl | rfl | rfl | rfl <;> decide
theorem move_who {g : Gb} {k : ByteArray} (h : isKeyB k = true) : (moveOf g k).2 = (whoOf g k, 0) := by rw [moveOf, if_neg (by simp [h])]; rfl
theorem who_move {g : Gb} {k : ByteArray} (h : isKeyB k = true) : whoOf (moveOf g k).1 k = [] := by
 rw [whoOf, numb_above, List.filter_eq_nil_iff]
 intro x _ hx
 exact move_none h x (rcB_iff.1 hx)
theorem mem_take_no {l : List ByteArray} (h : l.Nodup) {i : Nat} (hi : i < l.length) : ¬ l[i] ∈ l.take i := by
 intro hm
 obtain ⟨j, hj, e⟩ := List.mem_take_iff_getElem.1 hm
 have := (List.getElem_inj h).1 e
 omega
theorem mem_take_succ {l : List ByteArray} {k : ByteArray} {i : Nat} (hi : i < l.length) : k ∈ l.take (i + 1) ↔ k ∈ l.take i ∨ l[i] = k := by
 rw [take_succ_at hi, List.mem_append, List.mem_singleton]
 constructor
 ·rintro (h | h); exact .inl h; exact .inr h.symm
 ·rintro (h | h); exact .inl h; exact .inr h.symm
theorem range_filter_succ (p : Nat → Bool) (u : Nat) : (List.range (u + 1)).filter p = (List.range u).filter p ++ (if p u = true then [u] else []) := by
 rw [List.range_succ, List.filter_append, List.filter_cons]; rfl
theorem hasB_at {g : Gb} {u : Nat} (h : u < g.units.length) : hasB g u = true := by simp [hasB]; omega
theorem who_ok (L : List Ld) (ex : Bool) (n : Int) : Meets Try.prog 5 [] (.cons (.imm 6 (dLds L) ex) (.cons (avInt n) .nil)) fun av X κ => av = .val (.bool true) := by
 have f := fb_played L
 obtain ⟨h1, h2⟩ := fitN_eq n (n := 4) (by omega)
 have h1' : (IntKind.u64.wrap n).tmod 4 = (fitN n 4 : Int) := h1
 have w2 : IntKind.i64.wrap (fitN n 4 : Int) = fitN n 4 := IntWalk.i64_in _ (by omega)
 have hk := key4_ok n
 have hkey : keyOf ((fitN n 4 : Nat) : Int) ⟨#[]⟩ = key4 n := rfl
 have hpl := played_ok L ex
 generalize hg : playedOf L = g at *
 generalize hkk : key4 n = k at *
 have b := f.bk
 have hul := b.len
 have hwq : whoQ g k = (whoOf g k, 0) := by simp [whoQ, hk]
 have hwl := whoQ_len b k
 rw [hwq] at hwl
 dsimp only at hwl
 have hmv := move_who (g := g) hk
 have hf2 : Bk 81 (moveOf g k).1 := b_move b k
 have hwq2 : whoQ (moveOf g k).1 k = ([], 0) := by simp [whoQ, hk, who_move hk]
 have hlaw := who_law b k
 refine fb Try.func5 Try.ntmps5 [.tmp 4] fun w0 I0 F0 hF => ?_
 repeat first|refine n1 ?_|((first|refine rg 0 [0, 1] [0, 1] [] ?_|refine rg 1 [0, 1] [1, 5, 6, 7] [] ?_);simp (maxSteps := 1000000) [hF])
 refine (hpl).go [] (by simp (maxSteps := 1000000) [hF]) ?_;rintro av X κ ⟨rfl, rfl, rfl⟩;simp (maxSteps := 1000000) [hF]
 repeat first|refine n1 ?_|refine n2 ?_|((first|refine rg 2 [1, 5, 6, 7] [1, 5, 6, 27] [] ?_|refine rg 4 [1, 5, 6] [5, 6, 8] [] ?_|refine nc ?_);simp (maxSteps := 1000000) [hF, h1', w2])
 refine (key_ok (fitN n 4 : Nat) ⟨#[]⟩).go [] (by simp (maxSteps := 1000000) [hF, hkey]) ?_;rintro av X κ ⟨rfl, rfl, rfl⟩;simp (maxSteps := 1000000) [hF, hkey]
 repeat first|refine n1 ?_|(refine rg 5 [5, 6, 8] [5, 6, 8, 9, 10] [] ?_;simp (maxSteps := 1000000) [hF])
 refine (who_c g b k).go [(0, [])] (by simp (maxSteps := 1000000) [hF, dBk, hwq]) ?_;rintro av X κ ⟨rfl, rfl, rfl⟩;simp (maxSteps := 1000000) [hF, dBk, hwq]
 repeat first|refine n1 ?_|refine n3 ?_|((first|refine rg 6 [5, 6, 8, 9, 10] [5, 6, 8, 9, 10, 11] [] ?_|refine rg 7 [5, 6, 8, 9, 10, 11] [5, 6, 8, 9, 10, 11, 12] [] ?_);simp (maxSteps := 1000000) [hF])
 refine VS.hold0 11 1 (by simp) ?_
 refine VS.pick [5, 6, 8, 9, 10, 11, 12] [0, 1, 2, 3] (by simp [hF]) ?_;simp [hF]
 refine VS.rounds (fun m st => ∃ (u : Nat) (A : List Nat), u + m = g.units.length ∧ A = (List.range u).filter (fun u => hasS (allKOf g u) k) ∧ A.length ≤ u ∧ st = ⟨[(5, .ptr 0 [.d]), (6, .ptr 1 [.d]), (8, avStr k), (9, .sub 2 [] 0 (whoOf g k).length false), (10, avInt 0), (11, .sub 3 [] 0 A.length false), (12, avInt u)],
  [dBk g, eBk g, .sl true () 1 (dInts (nats (whoOf g k))), .sl true () 1 (dInts (nats A))], [], []⟩) ⟨g.units.length, 0, [], by omega, by simp, by simp, by simp [dBk, eBk]⟩ ?_
 rintro m st ⟨u, A, hu, hA, hAl, rfl⟩
 repeat first|refine n1 ?_|((first|refine rg 8 [5, 6, 8, 9, 10, 11, 12] [5, 6, 8, 9, 10, 11, 12, 45] [] ?_|refine nc ?_);simp (maxSteps := 1000000) [hF, eBk, eBb])
 refine ⟨fun hlt => ?_, fun hge => ?_⟩
 ·have hw : IntKind.i64.wrap ((u : Int) + 1) = (u + 1 : Nat) := by rw [IntWalk.i64_in _ (by omega)]; rfl
  have hq : allQ g u = (allKOf g u, 0) := by simp [allQ, hasB_at hlt]
  have hql := allQ_len b u
  rw [hq] at hql
  dsimp only at hql
  have hnd : (allKOf g u).Nodup := (keysS_asc _).nodup
  have hrs := range_filter_succ (fun u => hasS (allKOf g u) k) u
  rw [← hA] at hrs
  generalize hl : allKOf g u = l at *
  repeat first|refine n1 ?_|refine n2 ?_|refine n3 ?_|(refine rg 10 [5, 6, 8, 9, 10, 11, 12] [5, 6, 8, 9, 10, 11, 12, 13, 14] [] ?_;simp (maxSteps := 1000000) [hF])
  refine (all_c g f u).go [(0, [])] (by simp (maxSteps := 1000000) [hF, dBk, hq]) ?_;rintro av X κ ⟨rfl, rfl, rfl⟩;simp (maxSteps := 1000000) [hF, dBk, hq]
  repeat first|refine n1 ?_|refine n2 ?_|refine n3 ?_|((first|refine rg 11 [5, 6, 8, 9, 10, 11, 12, 13, 14] [5, 6, 8, 9, 10, 11, 12, 13, 55] [] ?_|refine rg 13 [5, 6, 8, 9, 10, 11, 12, 13] [5, 6, 8, 9, 10, 11, 12, 13, 15] [] ?_|refine nc ?_);simp (maxSteps := 1000000) [hF])
  refine VS.pick [5, 6, 8, 9, 10, 11, 12, 13, 15] [0, 1, 2, 3, 4] (by simp [hF]) ?_;simp [hF]
  refine VS.rounds (fun m2 st => ∃ (i : Nat) (B : List Nat), i + m2 = l.length ∧ B = A ++ (if hasS (l.take i) k = true then [u] else []) ∧ st = ⟨[(5, .ptr 0 [.d]), (6, .ptr 1 [.d]), (8, avStr k), (9, .sub 2 [] 0 (whoOf g k).length false), (10, avInt 0), (11, .sub 3 [] 0 B.length false), (12, avInt u), (13, .sub 4 [] 0 l.length false), (15, avInt i)],
   [dBk g, eBk g, .sl true () 1 (dInts (nats (whoOf g k))), .sl true () 1 (dInts (nats B)), .sl true () 1 (strs l)], [], []⟩) ⟨l.length, 0, A, by omega, by simp [hasS], by simp [dBk, eBk, eBb]⟩ ?_
  rintro m2 st ⟨i, B, hi, hB, rfl⟩
  have hBl : B.length ≤ 201 := by
   rw [hB, List.length_append]
   split <;> simp <;> omega
  repeat first|refine n1 ?_|((first|refine rg 14 [5, 6, 8, 9, 10, 11, 12, 13, 15] [5, 6, 8, 9, 10, 11, 12, 13, 15, 59] [] ?_|refine nc ?_);simp (maxSteps := 1000000) [hF])
  refine ⟨fun hil => ?_, fun hige => ?_⟩
  ·have hn1 := strs_nth hil
   have hw2 : IntKind.i64.wrap ((i : Int) + 1) = (i + 1 : Nat) := by rw [IntWalk.i64_in _ (by omega)]; rfl
   have c1 : (B.length + 1) * 8 ≤ 140737488355328 := by omega
   have c2 : B.length ≤ 9223372036854775806 := by omega
   by_cases hp : l[i] = k
   ·have hno := mem_take_no hnd hil
    rw [hp] at hno
    rw [if_neg (fun h => hno (hasS_iff.1 h)), List.append_nil] at hB
    have hst : A ++ (if hasS (l.take (i + 1)) k = true then [u] else []) = B ++ [u] := by rw [if_pos (hasS_iff.2 ((mem_take_succ hil).2 (.inr hp))), hB]
    repeat first|refine n1 ?_|refine n2 ?_|refine n3 ?_|refine n4 ?_|refine n5 ?_|refine n6 ?_|((first|refine rg 15 [5, 6, 8, 9, 10, 11, 12, 13, 15] [5, 6, 8, 9, 10, 11, 12, 13, 15] [] ?_|refine rg 16 [5, 6, 8, 9, 10, 11, 12, 13, 15] [5, 6, 8, 9, 10, 11, 12, 13, 15, 67] [] ?_|refine rg 17 [5, 6, 8, 9, 10, 11, 12, 13, 15] [5, 6, 8, 9, 10, 11, 12, 13, 15] [] ?_|refine nc ?_);simp (maxSteps := 1000000) [hF, hn1, hil, hp, c1, c2, hw2])
    refine nextK.of [5, 6, 8, 9, 10, 11, 12, 13, 15] [0, 1, 2, 3, 4] (m2 - 1) (by omega) (by simp [hF]) ?_
    exact ⟨i + 1, B ++ [u], by omega, hst.symm, by simp [dBk, eBk]⟩
   ·have hst : A ++ (if hasS (l.take (i + 1)) k = true then [u] else []) = B := by
     rw [hB]
     have : hasS (l.take (i + 1)) k = hasS (l.take i) k := by
      rw [Bool.eq_iff_iff, hasS_iff, hasS_iff]
      exact ⟨fun h => ((mem_take_succ hil).1 h).resolve_right hp, fun h => (mem_take_succ hil).2 (.inl h)⟩
     rw [this]
    repeat first|refine n1 ?_|refine n2 ?_|refine n3 ?_|refine n4 ?_|refine n5 ?_|refine n6 ?_|((first|refine rg 15 [5, 6, 8, 9, 10, 11, 12, 13, 15] [5, 6, 8, 9, 10, 11, 12, 13, 15] [] ?_|refine rg 16 [5, 6, 8, 9, 10, 11, 12, 13, 15] [5, 6, 8, 9, 10, 11, 12, 13, 15, 67] [] ?_|refine nc ?_);simp (maxSteps := 1000000) [hF, hn1, hil, hp, hw2])
    refine nextK.of [5, 6, 8, 9, 10, 11, 12, 13, 15] [0, 1, 2, 3, 4] (m2 - 1) (by omega) (by simp [hF]) ?_
    exact ⟨i + 1, B, by omega, hst.symm, by simp [dBk, eBk]⟩
  ·rw [List.take_of_length_le (by omega)] at hB
   have hst : (List.range (u + 1)).filter (fun u => hasS (allKOf g u) k) = B := by
    rw [hrs, hB]
   repeat first|refine n4 ?_|refine n5 ?_|refine n6 ?_|refine n7 ?_|(refine rg 9 [5, 6, 8, 9, 10, 11, 12] [5, 6, 8, 9, 10, 11, 12] [] ?_;simp (maxSteps := 1000000) [hF, hw])
   refine nextK.of [5, 6, 8, 9, 10, 11, 12] [0, 1, 2, 3] (m - 1) (by omega) (by simp [hF]) ?_
   refine ⟨u + 1, B, by omega, hst.symm, ?_, by simp [dBk, eBk]⟩
   rw [← hst]
   exact Nat.le_trans (List.length_filter_le _ _) (by simp)
 ·have hul2 : u = g.units.length := by omega
  subst hul2
  rw [← hlaw] at hA
  subst hA
  repeat first|refine n1 ?_|refine n7 ?_|(refine rg 18 [5, 8, 9, 10, 11] [5, 8, 9, 10, 11, 16, 17] [] ?_;simp (maxSteps := 1000000) [hF])
  refine (move_c g b (by omega) k).go [(0, [])] (by simp (maxSteps := 1000000) [hF, dBk, hmv]) ?_;rintro av X κ ⟨rfl, rfl, rfl⟩;simp (maxSteps := 1000000) [hF, dBk, hmv]
  repeat first|refine n1 ?_|(refine rg 19 [5, 8, 9, 10, 11, 16, 17] [5, 8, 95] [(2, 80), (6, 84), (12, 90)] ?_;simp (maxSteps := 1000000) [hF])
  refine (ints_n (whoOf g k) false false (by omega)).go [(2, []), (3, [])] (by simp (maxSteps := 1000000) [hF, dBk]) ?_;rintro av X κ ⟨rfl, rfl, rfl⟩;simp (maxSteps := 1000000) [hF, dBk]
  refine (ints_n (whoOf g k) false false (by omega)).go [(4, []), (2, [])] (by simp (maxSteps := 1000000) [hF, dBk]) ?_;rintro av X κ ⟨rfl, rfl, rfl⟩;simp (maxSteps := 1000000) [hF, dBk]
  repeat first|refine n1 ?_|refine n2 ?_|((first|refine rg 21 [5, 8] [18, 19] [] ?_|refine nc ?_);simp (maxSteps := 1000000) [hF])
  refine (who_c (moveOf g k).1 hf2 k).go [(0, [])] (by simp (maxSteps := 1000000) [hF, dBk, hwq2]) ?_;rintro av X κ ⟨rfl, rfl, rfl⟩;simp (maxSteps := 1000000) [hF, dBk, hwq2]
  repeat first|refine n1 ?_|(refine rg 22 [18, 19] [4] [(2, 104), (7, 109)] ?_;simp (maxSteps := 1000000) [hF])
  refine (sane_ok).go [] (by simp (maxSteps := 1000000) [hF]) ?_;rintro av X κ ⟨rfl, rfl, rfl⟩;simp (maxSteps := 1000000) [hF]
  (try refine nr ?_);(repeat first|refine nb_ ?_|refine nl_ ?_);refine endK.o [4] [] [] ?_;simp [hF, retK, covers, mpre]
end Go.Proofs.Ytipokdbfdingmaa

/- Proved: GroundWho returns true for every input, and its arguments read behind the call as before. No condition. -/
namespace Go.Proofs.Ytipokdbfdingmaa.groundWho
set_option linter.all false
open Go.Vc Go.ChangeShapes Go.WideShapes Go.ChangeAt Go.RowKit
set_option linter.unusedVariables false
theorem own : ownKnob Try.prog.godebug = none := by kernel_rfl
theorem laid : laidOutB Try.prog = true := by kernel_rfl
set_option maxRecDepth 100000 in
theorem lifted (os : Os) (started : os.Started) (H : Type) (enc : TypeId × Value → H) :
    ReturnsInHanded {} Try.checked os 5 .any (Rows.groundWhoSpec.pre6 enc Try.prog Try.f5 Rows.groundWhoRow.domain false) (Rows.groundWhoSpec.post enc Try.prog Try.f5 false true false false) := by
  refine returnsInHanded_of_change (C := Try.checked) own started (by kernel_rfl) Try.func5
    (ChangeSpec.witness6 (enc := enc) (C := Try.checked) false ⟨#[], #[.slice none 0 0, .int .i64 0], []⟩ 8 (by kernel_rfl) (by kernel_rfl) (by kernel_rfl) (by kernel_rfl)) ?_
  intro W base args ds gs before hval0 hW hcnd _
  have hval : ∀ (j : Nat) t v, Try.f5.params[j]? = some t → args[j]? = some v → Value.okWide Try.prog W .any base t v := hval0
  have hW' := hW
  obtain ⟨p, q, hA0, hV, rfl, hfz, hnd⟩ := hW
  have hA : DataW.TrodAll enc Try.prog W 0 (fun _ => true) true Try.f5.params.toList args.toList ds p := hA0
  rw [Try.params5] at hA hval
  obtain ⟨v0, vs0, d0, ds0, p0, q0, hargs0, rfl, rfl, h0, r0⟩ := trodAll_cons hA
  obtain ⟨v1, vs1, d1, ds1, p1, q1, hargs1, rfl, rfl, h1, r1⟩ := trodAll_cons r0
  obtain ⟨rfl, rfl, rfl⟩ := trodAll_nil r1
  subst hargs1
  obtain rfl : args = #[v0, v1] := by cases args; simp_all
  obtain ⟨rfl, rfl⟩ := trodVars_none hV
  obtain ⟨a0, hlen0, hr0⟩ := deeds_of (hval 0 22 v0 rfl rfl) h0
  obtain ⟨a1, hr1⟩ := int_of (hval 1 3 v1 rfl rfl) h1
  clear hA0 hval0
  have hwalk : Calls Try.prog 5 #[v0, v1] W fun e w' => e = .returned (.bool true) ∧ Below W.heap.size W w' :=
    Meets.law (who_ok a0 false a1) (vs := [v0, v1]) (I := allB W) (fun _ h => h) ⟨v0, _, rfl, hr0, ⟨v1, _, rfl, hr1, rfl⟩⟩
  refine hwalk.mono fun e W' ⟨he, bel⟩ => ?_
  subst he
  exact ⟨_, rfl, _, _, _, [], _, [], hW', trodAll_mk1 (shut_bool Try.underlying4 _), (trodAll_cons_mk (Below.trod laid (by kernel_rfl) (of_decide_eq_true (by kernel_rfl)) h0 bel fun x hx => hW'.lt x (by simp [hx])) (trodAll_cons_mk (Below.trod laid (by kernel_rfl) (of_decide_eq_true (by kernel_rfl)) h1 bel fun x hx => hW'.lt x (by simp [hx])) trodAll_mk0)), rfl, bel.frame _, fun h => by cases h⟩
theorem over : Rows.groundWhoRow.holds Try.pinned (OpenSpec.ofChange Rows.groundWhoSpec) :=
  OpenClaim.holds_of_wide 5 Try.f5 rfl rfl rfl rfl rfl rfl rfl ⟨rfl, rfl, rfl, rfl, rfl⟩ rfl rfl rfl rfl rfl (by kernel_rfl) Try.func5 (by kernel_rfl)
    (of_decide_eq_true (by kernel_rfl)) (by unfold Func.isWrapper; first | (rw [if_pos (by decide +kernel)]; kernel_rfl) | (rw [if_neg (by decide +kernel)]; exact ⟨rfl, rfl⟩))
    (fun os started H enc _ => lifted os started H enc)
theorem proved : Rows.GroundWhoSaid :=
  over
end Go.Proofs.Ytipokdbfdingmaa.groundWho
