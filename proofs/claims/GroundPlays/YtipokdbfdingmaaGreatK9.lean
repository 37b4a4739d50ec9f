/- The law's own functions: both tell the same of all. -/
import Derived.Test.YtipokdbfdingmaaGreatK7
import Derived.Test.YtipokdbfdingmaaGreatK8
import Derived.Test.YtipokdbfdingmaaGreatRows
import Derived.WalkKit
import Derived.ProofKit
import Derived.OpenShut
import Derived.ShutString
import Derived.ChangeOld
import Derived.Carry
namespace Go.Proofs.YtipokdbfdingmaaGreat
set_option linter.all false
open Go.Vc Go.Proofs
set_option linter.unusedSimpArgs false
set_option linter.unusedVariables false
set_option maxRecDepth 100000
set_option maxHeartbeats 4000000
attribute [local irreducible] CallW EqK
theorem alike_i {n : Nat} (g : Gb) (f : Fb n g) (hn : n ≤ 1000000) : Meets Tryz.prog 6 [dBk g] (.cons (.ptr 0 [.d]) (.cons (avE g) .nil)) fun av X κ => av = avBool true ∧ X = [dBk g] ∧ κ = [] := by
 have b := f.bk
 have hul := b.len
 have hml := movedOf_len b
 refine fb Tryz.func6 Tryz.ntmps6 [.tmp 4] fun w0 I0 F0 hF => ?_
 repeat first|refine n1 ?_|refine n3 ?_|((first|refine rg 0 [0, 1] [0, 1] [] ?_|refine rg 1 [0, 1] [0, 1, 5] [] ?_);simp (maxSteps := 1000000) [hF])
 refine VS.rounds (fun m st => ∃ (i : Nat), i + m = g.units.length + 2 ∧ st = ⟨[(0, .ptr 0 [.d]), (1, avE g), (5, avInt ((i : Int) - 1))], [dBk g], [], []⟩) ⟨g.units.length + 2, 0, by omega, by simp [dBk]⟩ ?_
 rintro m st ⟨i, hi, rfl⟩
 repeat first|refine n1 ?_|((first|refine rg 2 [0, 1, 5] [0, 1, 5, 13] [] ?_|refine nc ?_);simp (maxSteps := 1000000) [hF, eBb])
 refine ⟨fun hlt => ?_, fun hge => ?_⟩
 ·have hw1 : IntKind.i64.wrap (i : Int) = i := IntWalk.i64_in _ (by omega)
  repeat first|refine n1 ?_|refine n2 ?_|refine n3 ?_|(refine rg 4 [0, 1, 5] [0, 1, 5, 20] [] ?_;simp (maxSteps := 1000000) [hF])
  refine (unit_i g f ((i : Int) - 1)).go [(0, [])] (by simp (maxSteps := 1000000) [hF, dBk]) ?_;rintro av X κ ⟨rfl, rfl, rfl⟩;simp (maxSteps := 1000000) [hF, dBk]
  repeat first|refine n2 ?_|refine n4 ?_|refine n5 ?_|refine n6 ?_|((first|refine rg 3 [0, 1, 5] [0, 1, 5] [] ?_|refine nc ?_);simp (maxSteps := 1000000) [hF, hw1])
  refine nextK.of [0, 1, 5] [0] (m - 1) (by omega) (by simp [hF]) ?_
  exact ⟨i + 1, by omega, by simp [dBk]⟩
 ·repeat first|refine n1 ?_|refine n3 ?_|refine n7 ?_|(refine rg 6 [0, 1] [0, 1, 6] [] ?_;simp (maxSteps := 1000000) [hF])
  refine VS.rounds (fun m2 st => ∃ (k : Nat), k + m2 = 5 ∧ st = ⟨[(0, .ptr 0 [.d]), (1, avE g), (6, avInt k)], [dBk g], [], []⟩) ⟨5, 0, by omega, by simp [dBk, eBb]⟩ ?_
  rintro m2 st ⟨k, hk, rfl⟩
  repeat first|refine n1 ?_|((first|refine rg 7 [0, 1, 6] [0, 1, 6, 22] [] ?_|refine nc ?_);simp (maxSteps := 1000000) [hF])
  refine ⟨fun hk5 => ?_, fun hk5 => ?_⟩
  ·have hw2 : IntKind.i64.wrap ((k : Int) + 1) = (k + 1 : Nat) := by rw [IntWalk.i64_in _ (by omega)]; rfl
   repeat first|refine n1 ?_|refine n2 ?_|refine n3 ?_|(refine rg 9 [0, 1, 6] [0, 1, 6, 30] [] ?_;simp (maxSteps := 1000000) [hF])
   refine (key_ok k ⟨#[]⟩).go [] (by simp (maxSteps := 1000000) [hF]) ?_;rintro av X κ ⟨rfl, rfl, rfl⟩;simp (maxSteps := 1000000) [hF]
   refine (grounds_i g f hn (keyOf k ⟨#[]⟩)).go [(0, [])] (by simp (maxSteps := 1000000) [hF, dBk]) ?_;rintro av X κ ⟨rfl, rfl, rfl⟩;simp (maxSteps := 1000000) [hF, dBk]
   repeat first|refine n2 ?_|refine n4 ?_|refine n5 ?_|refine n6 ?_|((first|refine rg 8 [0, 1, 6] [0, 1, 6] [] ?_|refine nc ?_);simp (maxSteps := 1000000) [hF, hw2])
   refine nextK.of [0, 1, 6] [0] (m2 - 1) (by omega) (by simp [hF]) ?_
   exact ⟨k + 1, by omega, by simp [dBk]⟩
  ·repeat first|refine n1 ?_|refine n7 ?_|(refine rg 11 [0, 1] [4] [] ?_;simp (maxSteps := 1000000) [hF])
   refine (moves_c g f hn).go [(0, [])] (by simp (maxSteps := 1000000) [hF, dBk]) ?_;rintro av X κ ⟨rfl, rfl, rfl⟩;simp (maxSteps := 1000000) [hF, dBk]
   refine (emoves_ok g b hn).go [] (by simp (maxSteps := 1000000) [hF, dBk]) ?_;rintro av X κ ⟨rfl, rfl, rfl⟩;simp (maxSteps := 1000000) [hF, dBk]
   refine (texts_c (movedOf g) false false (by omega)).go [(1, []), (2, [])] (by simp (maxSteps := 1000000) [hF, dBk]) ?_;rintro av X κ ⟨rfl, rfl, rfl⟩;simp (maxSteps := 1000000) [hF, dBk]
   (try refine nr ?_);(repeat first|refine nb_ ?_|refine nl_ ?_);refine endK.o [4] [0] [] ?_;simp [hF, retK, covers, mpre, dBk]
theorem alike_c {n : Nat} (g : Gb) (f : Fb n g) (hn : n ≤ 1000000) : Meets Tryz.prog 6 [eBk g, dBk g] (.cons (.ptr 1 [.d]) (.cons (.ptr 0 [.d]) .nil)) fun av X κ => av = avBool true ∧ X = [eBk g, dBk g] ∧ κ = [] := by
 have e : (AV.cons (.ptr 1 [.d]) (.cons (.ptr 0 [.d]) .nil)).chilled (eBk g) = .cons (.ptr 0 [.d]) (.cons (avE g) .nil) := by rw [AV.chilled, chillE]; rfl
 refine Meets.mono (Meets.warm (d0 := eBk g) (Y := [dBk g]) (by rw [e]; exact alike_i g f hn) ?_) ?_
 ·rintro av X κ ⟨rfl, rfl, rfl⟩; exact ⟨rfl, by simp, rfl⟩
 ·rintro av X κ ⟨av0, X0, ⟨rfl, rfl, _⟩, rfl, rfl, rfl⟩; exact ⟨rfl, rfl, rfl⟩
theorem plays_ok (L : List Ld) (ex : Bool) : Meets Tryz.prog 3 [] (.cons (.imm 6 (dLds L) ex) .nil) fun av X κ => av = .val (.bool true) := by
 have f := fb_played L
 refine fb Tryz.func3 Tryz.ntmps3 [.tmp 2] fun w0 I0 F0 hF => ?_
 repeat first|refine n1 ?_|((first|refine rg 0 [0] [0] [] ?_|refine rg 1 [0] [3, 4, 5] [] ?_);simp (maxSteps := 1000000) [hF])
 refine (played_ok L ex).go [] (by simp (maxSteps := 1000000) [hF]) ?_;rintro av X κ ⟨rfl, rfl, rfl⟩;simp (maxSteps := 1000000) [hF]
 repeat first|refine n1 ?_|(refine rg 2 [3, 4, 5] [2] [(1, 13), (6, 18)] ?_;simp (maxSteps := 1000000) [hF])
 refine (alike_c (playedOf L) f (by omega)).go [(1, []), (0, [])] (by simp (maxSteps := 1000000) [hF, dBk, eBk]) ?_;rintro av X κ ⟨rfl, rfl, rfl⟩;simp (maxSteps := 1000000) [hF, dBk, eBk]
 refine (sane_ok).go [] (by simp (maxSteps := 1000000) [hF]) ?_;rintro av X κ ⟨rfl, rfl, rfl⟩;simp (maxSteps := 1000000) [hF]
 (try refine nr ?_);(repeat first|refine nb_ ?_|refine nl_ ?_);refine endK.o [2] [] [] ?_;simp [hF, retK, covers, mpre]
end Go.Proofs.YtipokdbfdingmaaGreat

/- Proved: GroundPlays returns true for every input, and its arguments read behind the call as before. No condition. -/
namespace Go.Proofs.YtipokdbfdingmaaGreat.groundPlays
set_option linter.all false
open Go.Vc Go.ChangeShapes Go.WideShapes Go.ChangeAt Go.RowKit
set_option linter.unusedVariables false
theorem own : ownKnob Tryz.prog.godebug = none := by kernel_rfl
theorem laid : laidOutB Tryz.prog = true := by kernel_rfl
set_option maxRecDepth 100000 in
theorem lifted (os : Os) (started : os.Started) (H : Type) (enc : TypeId × Value → H) :
    ReturnsInHanded {} Tryz.checked os 3 .any (Rows.groundPlaysSpec.pre6 enc Tryz.prog Tryz.f3 Rows.groundPlaysRow.domain false) (Rows.groundPlaysSpec.post enc Tryz.prog Tryz.f3 false true false false) := by
  refine returnsInHanded_of_change (C := Tryz.checked) own started (by kernel_rfl) Tryz.func3
    (ChangeSpec.witness6 (enc := enc) (C := Tryz.checked) false ⟨#[], #[.slice none 0 0], []⟩ 8 (by kernel_rfl) (by kernel_rfl) (by kernel_rfl) (by kernel_rfl)) ?_
  intro W base args ds gs before hval0 hW hcnd _
  have hval : ∀ (j : Nat) t v, Tryz.f3.params[j]? = some t → args[j]? = some v → Value.okWide Tryz.prog W .any base t v := hval0
  have hW' := hW
  obtain ⟨p, q, hA0, hV, rfl, hfz, hnd⟩ := hW
  have hA : DataW.TrodAll enc Tryz.prog W 0 (fun _ => true) true Tryz.f3.params.toList args.toList ds p := hA0
  rw [Tryz.params3] at hA hval
  obtain ⟨v0, vs0, d0, ds0, p0, q0, hargs0, rfl, rfl, h0, r0⟩ := trodAll_cons hA
  obtain ⟨rfl, rfl, rfl⟩ := trodAll_nil r0
  obtain rfl : args = #[v0] := by cases args; simp_all
  obtain ⟨rfl, rfl⟩ := trodVars_none hV
  obtain ⟨a0, hlen0, hr0⟩ := deeds_of (hval 0 22 v0 rfl rfl) h0
  clear hA0 hval0
  have hwalk : Calls Tryz.prog 3 #[v0] W fun e w' => e = .returned (.bool true) ∧ Below W.heap.size W w' :=
    Meets.law (plays_ok a0 false) (vs := [v0]) (I := allB W) (fun _ h => h) ⟨v0, _, rfl, hr0, rfl⟩
  refine hwalk.mono fun e W' ⟨he, bel⟩ => ?_
  subst he
  exact ⟨_, rfl, _, _, _, [], _, [], hW', trodAll_mk1 (shut_bool Tryz.underlying4 _), (trodAll_cons_mk (Below.trod laid (by kernel_rfl) (of_decide_eq_true (by kernel_rfl)) h0 bel fun x hx => hW'.lt x (by simp [hx])) trodAll_mk0), rfl, bel.frame _, fun h => by cases h⟩
theorem over : Rows.groundPlaysRow.holds Tryz.pinned (OpenSpec.ofChange Rows.groundPlaysSpec) :=
  OpenClaim.holds_of_wide 3 Tryz.f3 rfl rfl rfl rfl rfl rfl rfl ⟨rfl, rfl, rfl, rfl, rfl⟩ rfl rfl rfl rfl rfl (by kernel_rfl) Tryz.func3 (by kernel_rfl)
    (of_decide_eq_true (by kernel_rfl)) (by unfold Func.isWrapper; first | (rw [if_pos (by decide +kernel)]; kernel_rfl) | (rw [if_neg (by decide +kernel)]; exact ⟨rfl, rfl⟩))
    (fun os started H enc _ => lifted os started H enc)
theorem proved : Rows.GroundPlaysSaid :=
  over
end Go.Proofs.YtipokdbfdingmaaGreat.groundPlays
