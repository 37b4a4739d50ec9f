/- IsolateApart. -/
import Derived.Test.YtkkbcpcihadkhaaK7
import Derived.Test.YtkkbcpcihadkhaaRows
import Derived.Test.YtkkbcpcihadkhaaK8
import Derived.WalkKit
import Derived.ProofKit
import Derived.OpenShut
import Derived.ShutString
import Derived.ChangeOld
import Derived.Carry
namespace Go.Proofs.Ytkkbcpcihadkhaa
set_option linter.all false
open Go.Vc Go.Proofs
set_option linter.unusedSimpArgs false
set_option linter.unusedVariables false
set_option maxRecDepth 100000
set_option maxHeartbeats 4000000
attribute [local irreducible] CallW EqK
theorem owner_of {h : Hs} {x : Int} (hx : 0 ≤ x ∧ x < h.things.length) : ownerOf h x = ((gd h.things x).owner, 0) := by
 rw [ownerOf, isT_of hx, if_neg (by simp)]
theorem graph_seen {h : Hs} {who x : Int} (hz : (graphOf h who x).2 = 0) : (gd h.things x).owner = who ∨ (gd h.things x).owner = -1 := by
 by_cases ha : askOf h who [x] = 0
 ·exact (ask_seen ha (x := x) (by simp)).2
 ·rw [graphOf, if_pos ha] at hz; exact absurd hz ha
theorem get_seen {h : Hs} (k : Hok h) {who x i : Int} (hz : (getOf h who x i).2 = 0) : (0 ≤ (getOf h who x i).1 ∧ (getOf h who x i).1 < h.things.length) ∧
  ((gd h.things (getOf h who x i).1).owner = who ∨ (gd h.things (getOf h who x i).1).owner = -1) ∧ ((gd h.things x).owner = -1 → (gd h.things (getOf h who x i).1).owner = -1) := by
 rw [getOf] at hz ⊢
 split at hz
 ·cases hz
 ·rename_i hi
  split at hz
  ·rename_i ha; exact absurd hz ha
  ·rename_i ha
   rw [if_neg hi, if_neg ha]
   have ha0 : askOf h who [x] = 0 := Classical.byContradiction ha
   obtain ⟨hx, ho⟩ := ask_seen ha0 (x := x) (by simp)
   have hi0 : indexOf h x i = 0 := Classical.byContradiction hi
   rw [indexOf] at hi0
   split at hi0
   ·cases hi0
   ·rename_i hn
    have hlt : ¬ i < 0 ∧ i < (gd h.things x).items.length := by
     refine ⟨fun hc => hn ⟨isT_of hx, .inr (.inl hc)⟩, ?_⟩
     refine Classical.byContradiction fun hc => hn ⟨isT_of hx, .inr (.inr (by omega))⟩
    obtain ⟨j, rfl⟩ : ∃ j : Nat, i = j := ⟨i.toNat, by omega⟩
    have hj : j < (gd h.things x).items.length := by omega
    obtain ⟨n, rfl, hn', e⟩ := gd_in hx
    have hm : (gd h.things (n : Int)).items.getD (j : Int).toNat 0 ∈ h.things[n].items := by
     rw [← e]
     have : (gd h.things (n : Int)).items.getD (j : Int).toNat 0 = (gd h.things (n : Int)).items[j] := by simp only [Int.toNat_natCast]; rw [List.getD_eq_getElem?_getD, List.getElem?_eq_getElem hj]; rfl
     rw [this]; exact List.getElem_mem hj
    generalize (gd h.things (n : Int)).items.getD (j : Int).toNat 0 = y at hm ⊢
    have hap := k.apart _ (List.getElem_mem hn') _ hm
    have hit := k.items _ (List.getElem_mem hn') _ hm
    rw [← e] at hap
    refine ⟨hit, ?_, fun h1 => ?_⟩
    ·rcases hap with h1 | h1
     ·rw [gd, h1]; exact ho
     ·exact .inr h1
    ·rcases hap with h2 | h2
     ·rw [gd, h2, h1]
     ·exact h2
theorem apart_ok (nn : Int) (L : List Ld) (ex : Bool) : Meets Try.prog 5 [] (.cons (avInt nn) (.cons (.imm 6 (dLds L) ex) .nil)) fun av X κ => av = .val (.bool true) := by
 refine fb Try.func5 Try.ntmps5 [.tmp 4] fun w0 I0 F0 hF => ?_
 repeat first|refine n1 ?_|((first|refine rg 0 [0, 1] [0, 1] [] ?_|refine rg 1 [0, 1] [5, 6, 7] [] ?_);simp (maxSteps := 1000000) [hF])
 refine (played_ok nn L ex).go [] (by simp (maxSteps := 1000000) [hF]) ?_;rintro av X κ ⟨n, h, fl, h1, h2, hf, rfl, rfl, rfl⟩;simp (maxSteps := 1000000) [hF]
 have hok := hf.good.ok
 have hrl := hf.rooms
 have htl := hok.things
 have hnl : (norm h).things.length = h.things.length := by simp [norm]
 have hkn := norm_hok.2 hok
 have hg : eH h fl = .box true () (.agg (.cons (.val (.bool true)) (.cons (.sl true () 2 (eRmsF fl h.rooms)) (.cons (.sl true () 5 (eTgs true h.things)) .nil)))) := rfl
 repeat first|refine n1 ?_|refine n2 ?_|refine n3 ?_|((first|refine rg 2 [5, 6, 7] [5, 6, 27] [] ?_|refine rg 4 [5, 6] [5, 6, 8] [] ?_|refine nc ?_);simp (maxSteps := 1000000) [hF])
 refine VS.rounds (fun m st => ∃ (x : Nat), x + m = h.things.length ∧ st = ⟨[(5, .ptr 0 [.d]), (6, .ptr 1 [.d]), (8, avInt x)], [dH (norm h), eH h fl], [], []⟩) ⟨h.things.length, 0, by omega, by simp [hg, dH, norm]⟩ ?_
 rintro m st ⟨x, hx, rfl⟩
 repeat first|refine n1 ?_|(refine rg 5 [5, 6, 8] [5, 6, 8, 31] [] ?_;simp (maxSteps := 1000000) [hF])
 refine (len_c (norm h)).go [(0, [])] (by simp (maxSteps := 1000000) [hF, hnl, dH]) ?_;rintro av X κ ⟨rfl, rfl, rfl⟩;simp (maxSteps := 1000000) [hF, hnl, dH]
 repeat first|(refine nc ?_;simp (maxSteps := 1000000) [hF])
 refine ⟨fun hlt => ?_, fun hge => ?_⟩
 ·have hxv : 0 ≤ (x : Int) ∧ (x : Int) < h.things.length := by omega
  have hO := owner_of hxv
  obtain ⟨o, ho⟩ : ∃ o, o = (gd h.things (x : Int)).owner := ⟨_, rfl⟩
  rw [← ho] at hO
  have hwx : IntKind.i64.wrap ((x : Int) + 1) = (x + 1 : Nat) := by rw [IntWalk.i64_in _ (by omega)]; rfl
  repeat first|refine n1 ?_|refine n2 ?_|refine n3 ?_|(refine rg 7 [5, 6, 8] [5, 6, 8, 9, 10] [] ?_;simp (maxSteps := 1000000) [hF])
  refine (owner_c (norm h) x).go [(0, [])] (by simp (maxSteps := 1000000) [hF, t_owner, hO, dH]) ?_;rintro av X κ ⟨rfl, rfl, rfl⟩;simp (maxSteps := 1000000) [hF, t_owner, hO, dH]
  repeat first|refine n1 ?_|refine n2 ?_|refine n3 ?_|((first|refine rg 8 [5, 6, 8, 9, 10] [5, 6, 8, 9, 41] [] ?_|refine rg 10 [5, 6, 8, 9] [5, 6, 8, 9, 11] [] ?_|refine nc ?_);simp (maxSteps := 1000000) [hF])
  refine VS.rounds (fun m st => ∃ (w : Nat), w + m = h.rooms.length ∧ st = ⟨[(5, .ptr 0 [.d]), (6, .ptr 1 [.d]), (8, avInt x), (9, avInt o), (11, avInt w)], [dH (norm h), eH h fl], [], []⟩) ⟨h.rooms.length, 0, by omega, by simp [hg, dH, norm]⟩ ?_
  rintro m2 st ⟨w, hw, rfl⟩
  repeat first|refine n1 ?_|((first|refine rg 11 [5, 6, 8, 9, 11] [5, 6, 8, 9, 11, 48] [] ?_|refine nc ?_);simp (maxSteps := 1000000) [hF, hg])
  refine ⟨fun hlt2 => ?_, fun hge2 => ?_⟩
  ·have hww : IntKind.i64.wrap ((w : Int) + 1) = (w + 1 : Nat) := by rw [IntWalk.i64_in _ (by omega)]; rfl
   have hmw : ¬ (-1 : Int) = w := by omega
   repeat first|refine n1 ?_|refine n2 ?_|refine n3 ?_|(refine rg 13 [5, 6, 8, 9, 11] [5, 6, 8, 9, 11, 13] [] ?_;simp (maxSteps := 1000000) [hF])
   refine (graph_c (norm h) hkn w x).go [(0, [])] (by simp (maxSteps := 1000000) [hF, t_graph, dH]) ?_;rintro av X κ ⟨rfl, rfl, rfl⟩;simp (maxSteps := 1000000) [hF, t_graph, dH]
   apply merge
   ·intro key
    by_cases hz : (graphOf h w x).2 = 0
    ·have hs := graph_seen hz
     rw [← ho] at hs
     have hcond : ((graphOf h w x).2 = 0) = True := by simp [hz]
     rcases hs with hs | hs
     ·have hs' : (o = (w : Int)) = True := by simp [hs]
      repeat first|refine n1 ?_|refine n2 ?_|((first|refine rg 14 [5, 6, 8, 9, 11, 13] [5, 6, 8, 9, 11, 68] [(2, 60), (7, 65)] ?_|refine nc ?_);simp (maxSteps := 1000000) [hF, hcond, hs'])
      refine VS.pick [5, 6, 8, 9, 11] [0, 1] (by simp [hF]) ?_;simp [hF]
      exact key
     ·have hs' : (o = (w : Int)) = False := by simp; omega
      have hs2 : (o = -1) = True := by simp [hs]
      repeat first|refine n1 ?_|refine n2 ?_|((first|refine rg 14 [5, 6, 8, 9, 11, 13] [5, 6, 8, 9, 11, 68] [(2, 60), (7, 65)] ?_|refine nc ?_);simp (maxSteps := 1000000) [hF, hcond, hs', hs2])
      refine VS.pick [5, 6, 8, 9, 11] [0, 1] (by simp [hF]) ?_;simp [hF]
      exact key
    ·have hcond : ((graphOf h w x).2 = 0) = False := by simp [hz]
     repeat first|refine n1 ?_|refine n2 ?_|((first|refine rg 14 [5, 6, 8, 9, 11, 13] [5, 6, 8, 9, 11, 68] [(2, 60), (7, 65)] ?_|refine nc ?_);simp (maxSteps := 1000000) [hF, hcond])
     refine VS.pick [5, 6, 8, 9, 11] [0, 1] (by simp [hF]) ?_;simp [hF]
     exact key
   repeat first|refine n3 ?_|(refine rg 16 [5, 6, 8, 9, 11] [5, 6, 8, 9, 11, 14] [] ?_;simp (maxSteps := 1000000) [hF])
   refine VS.rounds (fun m st => ∃ (i : Nat), i + m = 50 ∧ st = ⟨[(5, .ptr 0 [.d]), (6, .ptr 1 [.d]), (8, avInt x), (9, avInt o), (11, avInt w), (14, avInt i)], [dH (norm h), eH h fl], [], []⟩) ⟨50, 0, by omega, by simp [hg, dH, norm]⟩ ?_
   rintro m3 st ⟨i, hi, rfl⟩
   have hwi : IntKind.i64.wrap ((i : Int) + 1) = (i + 1 : Nat) := by rw [IntWalk.i64_in _ (by omega)]; rfl
   repeat first|refine n1 ?_|((first|refine rg 17 [5, 6, 8, 9, 11, 14] [5, 6, 8, 9, 11, 14, 70] [] ?_|refine nc ?_);simp (maxSteps := 1000000) [hF])
   refine ⟨fun hlt3 => ?_, fun hge3 => ?_⟩
   ·repeat first|refine n1 ?_|refine n2 ?_|refine n3 ?_|(refine rg 19 [5, 6, 8, 9, 11, 14] [5, 6, 8, 9, 11, 14, 15, 16] [] ?_;simp (maxSteps := 1000000) [hF])
    refine (get_c (norm h) w x i).go [(0, [])] (by simp (maxSteps := 1000000) [hF, t_get, dH]) ?_;rintro av X κ ⟨rfl, rfl, rfl⟩;simp (maxSteps := 1000000) [hF, t_get, dH]
    by_cases hz : (getOf h w x i).2 = 0
    ·have hz' : ((getOf h w x i).2 = 0) = True := by simp [hz]
     obtain ⟨g1, g2, g3⟩ := get_seen hok hz
     have hOy := owner_of g1
     generalize (getOf h w x i).1 = y at *
     obtain ⟨p, hp⟩ : ∃ p, p = (gd h.things y).owner := ⟨_, rfl⟩
     rw [← hp] at hOy g2 g3
     rw [← ho] at g3
     repeat first|refine n1 ?_|refine n2 ?_|((first|refine rg 20 [5, 6, 8, 9, 11, 14, 15, 16] [5, 6, 8, 9, 11, 14, 15, 82] [] ?_|refine rg 21 [5, 6, 8, 9, 11, 14, 15] [5, 6, 8, 9, 11, 14, 17, 18] [] ?_|refine nc ?_);simp (maxSteps := 1000000) [hF, hz'])
     refine (owner_c (norm h) y).go [(0, [])] (by simp (maxSteps := 1000000) [hF, t_owner, hOy, dH]) ?_;rintro av X κ ⟨rfl, rfl, rfl⟩;simp (maxSteps := 1000000) [hF, t_owner, hOy, dH]
     by_cases hpm : p = -1
     ·have e1 : (p = (w : Int)) = False := by simp; omega
      have e2 : (p = -1) = True := by simp [hpm]
      repeat first|refine n1 ?_|refine n2 ?_|refine n4 ?_|refine n5 ?_|refine n6 ?_|((first|refine rg 18 [5, 6, 8, 9, 11, 14] [5, 6, 8, 9, 11, 14] [] ?_|refine rg 22 [5, 6, 8, 9, 11, 14, 17, 18] [5, 6, 8, 9, 11, 14, 107] [(2, 91), (6, 95), (11, 100), (14, 103)] ?_|refine nc ?_);simp (maxSteps := 1000000) [hF, e1, e2, hwi])
      refine nextK.of [5, 6, 8, 9, 11, 14] [0, 1] (m3 - 1) (by omega) (by simp [hF]) ?_
      exact ⟨i + 1, by omega, by simp [hg, dH, norm]⟩
     ·have e1 : (p = (w : Int)) = True := by simp; omega
      have e2 : (p = -1) = False := by simp [hpm]
      have e3 : (o = -1) = False := by simp; exact fun e => hpm (g3 e)
      repeat first|refine n1 ?_|refine n2 ?_|refine n4 ?_|refine n5 ?_|refine n6 ?_|((first|refine rg 18 [5, 6, 8, 9, 11, 14] [5, 6, 8, 9, 11, 14] [] ?_|refine rg 22 [5, 6, 8, 9, 11, 14, 17, 18] [5, 6, 8, 9, 11, 14, 107] [(2, 91), (6, 95), (11, 100), (14, 103)] ?_|refine nc ?_);simp (maxSteps := 1000000) [hF, e1, e2, e3, hwi])
      refine nextK.of [5, 6, 8, 9, 11, 14] [0, 1] (m3 - 1) (by omega) (by simp [hF]) ?_
      exact ⟨i + 1, by omega, by simp [hg, dH, norm]⟩
    ·have hz' : ((getOf h w x i).2 = 0) = False := by simp [hz]
     repeat first|refine n1 ?_|refine n4 ?_|refine n5 ?_|refine n6 ?_|refine n7 ?_|((first|refine rg 12 [5, 6, 8, 9, 11] [5, 6, 8, 9, 11] [] ?_|refine rg 20 [5, 6, 8, 9, 11, 14, 15, 16] [5, 6, 8, 9, 11, 14, 15, 82] [] ?_|refine nc ?_);simp (maxSteps := 1000000) [hF, hz', hww])
     refine nextK.of [5, 6, 8, 9, 11] [0, 1] (m2 - 1) (by omega) (by simp [hF]) ?_
     exact ⟨w + 1, by omega, by simp [hg, dH, norm]⟩
   ·repeat first|refine n4 ?_|refine n5 ?_|refine n6 ?_|refine n7 ?_|(refine rg 12 [5, 6, 8, 9, 11] [5, 6, 8, 9, 11] [] ?_;simp (maxSteps := 1000000) [hF, hww])
    refine nextK.of [5, 6, 8, 9, 11] [0, 1] (m2 - 1) (by omega) (by simp [hF]) ?_
    exact ⟨w + 1, by omega, by simp [hg, dH, norm]⟩
  ·repeat first|refine n4 ?_|refine n5 ?_|refine n6 ?_|refine n7 ?_|(refine rg 6 [5, 6, 8] [5, 6, 8] [] ?_;simp (maxSteps := 1000000) [hF, hwx])
   refine nextK.of [5, 6, 8] [0, 1] (m - 1) (by omega) (by simp [hF]) ?_
   exact ⟨x + 1, by omega, by simp [hg, dH, norm]⟩
 ·repeat first|refine n1 ?_|refine n7 ?_|(refine rg 24 [] [4] [] ?_;simp (maxSteps := 1000000) [hF])
  refine (sane_ok).go [] (by simp (maxSteps := 1000000) [hF]) ?_;rintro av X κ ⟨rfl, rfl, rfl⟩;simp (maxSteps := 1000000) [hF]
  (try refine nr ?_);(repeat first|refine nb_ ?_|refine nl_ ?_);refine endK.o [4] [] [] ?_;simp [hF, retK, covers, mpre]
end Go.Proofs.Ytkkbcpcihadkhaa

/- Proved: IsolateApart returns true for every input, and its arguments read behind the call as before. No condition. -/
namespace Go.Proofs.Ytkkbcpcihadkhaa.isolateApart
set_option linter.all false
open Go.Vc Go.ChangeShapes Go.WideShapes Go.ChangeAt Go.RowKit
set_option linter.unusedVariables false
theorem own : ownKnob Try.prog.godebug = none := by kernel_rfl
theorem laid : laidOutB Try.prog = true := by kernel_rfl
set_option maxRecDepth 100000 in
theorem lifted (os : Os) (started : os.Started) (H : Type) (enc : TypeId × Value → H) :
    ReturnsInHanded {} Try.checked os 5 .any (Rows.isolateApartSpec.pre6 enc Try.prog Try.f5 Rows.isolateApartRow.domain false) (Rows.isolateApartSpec.post enc Try.prog Try.f5 false true false false) := by
  refine returnsInHanded_of_change (C := Try.checked) own started (by kernel_rfl) Try.func5
    (ChangeSpec.witness6 (enc := enc) (C := Try.checked) false ⟨#[], #[.int .i64 0, .slice none 0 0], []⟩ 8 (by kernel_rfl) (by kernel_rfl) (by kernel_rfl) (by kernel_rfl)) ?_
  intro W base args ds gs before hval0 hW hcnd _
  have hval : ∀ (j : Nat) t v, Try.f5.params[j]? = some t → args[j]? = some v → Value.okWide Try.prog W .any base t v := hval0
  have hW' := hW
  obtain ⟨p, q, hA0, hV, rfl, hfz, hnd⟩ := hW
  have hA : DataW.TrodAll enc Try.prog W 0 (fun _ => true) true Try.f5.params.toList args.toList ds p := hA0
  rw [Try.params5] at hA hval
  obtain ⟨v0, vs0, d0, ds0, p0, q0, hargs0, rfl, rfl, h0, r0⟩ := trodAll_cons hA
  obtain ⟨v1, vs1, d1, ds1, p1, q1, hargs1, rfl, rfl, h1, r1⟩ := trodAll_cons r0
  obtain ⟨rfl, rfl, rfl⟩ := trodAll_nil r1
  subst hargs1
  obtain rfl : args = #[v0, v1] := by cases args; simp_all
  obtain ⟨rfl, rfl⟩ := trodVars_none hV
  obtain ⟨a0, hr0⟩ := int_of (hval 0 3 v0 rfl rfl) h0
  obtain ⟨a1, hlen1, hr1⟩ := deeds_of (hval 1 22 v1 rfl rfl) h1
  clear hA0 hval0
  have hwalk : Calls Try.prog 5 #[v0, v1] W fun e w' => e = .returned (.bool true) ∧ Below W.heap.size W w' :=
    Meets.law (apart_ok a0 a1 false) (vs := [v0, v1]) (I := allB W) (fun _ h => h) ⟨v0, _, rfl, hr0, ⟨v1, _, rfl, hr1, rfl⟩⟩
  refine hwalk.mono fun e W' ⟨he, bel⟩ => ?_
  subst he
  exact ⟨_, rfl, _, _, _, [], _, [], hW', trodAll_mk1 (shut_bool Try.underlying4 _), (trodAll_cons_mk (Below.trod laid (by kernel_rfl) (of_decide_eq_true (by kernel_rfl)) h0 bel fun x hx => hW'.lt x (by simp [hx])) (trodAll_cons_mk (Below.trod laid (by kernel_rfl) (of_decide_eq_true (by kernel_rfl)) h1 bel fun x hx => hW'.lt x (by simp [hx])) trodAll_mk0)), rfl, bel.frame _, fun h => by cases h⟩
theorem over : Rows.isolateApartRow.holds Try.pinned (OpenSpec.ofChange Rows.isolateApartSpec) :=
  OpenClaim.holds_of_wide 5 Try.f5 rfl rfl rfl rfl rfl rfl rfl ⟨rfl, rfl, rfl, rfl, rfl⟩ rfl rfl rfl rfl rfl (by kernel_rfl) Try.func5 (by kernel_rfl)
    (of_decide_eq_true (by kernel_rfl)) (by unfold Func.isWrapper; first | (rw [if_pos (by decide +kernel)]; kernel_rfl) | (rw [if_neg (by decide +kernel)]; exact ⟨rfl, rfl⟩))
    (fun os started H enc _ => lifted os started H enc)
theorem proved : Rows.IsolateApartSaid :=
  over
end Go.Proofs.Ytkkbcpcihadkhaa.isolateApart
