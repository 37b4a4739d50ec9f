/- GroundAsks. -/
import Derived.Test.YtipokdbfdingmaaK8
import Derived.Test.YtipokdbfdingmaaK7
import Derived.Test.YtipokdbfdingmaaRows
import Derived.WalkKit
import Derived.ProofKit
import Derived.OpenShut
import Derived.ShutString
import Derived.ChangeOld
import Derived.Carry
namespace Go.Proofs.Ytipokdbfdingmaa
set_option linter.all false
open Go.Vc Go.Proofs
set_option linter.unusedSimpArgs false
set_option linter.unusedVariables false
set_option maxRecDepth 100000
set_option maxHeartbeats 4000000
attribute [local irreducible] CallW EqK
theorem asks_ok (L : List Ld) (ex : Bool) (u : Int) (k : ByteArray) : Meets Try.prog 7 [] (.cons (.imm 6 (dLds L) ex) (.cons (avInt u) (.cons (avStr k) .nil))) fun av X κ => av = .val (.bool true) := by
 have f := fb_played L
 refine fb Try.func7 Try.ntmps7 [.tmp 6] fun w0 I0 F0 hF => ?_
 repeat first|refine n1 ?_|((first|refine rg 0 [0, 1, 2] [0, 1, 2] [] ?_|refine rg 1 [0, 1, 2] [1, 2, 7, 8, 9] [] ?_);simp (maxSteps := 1000000) [hF])
 refine (played_ok L ex).go [] (by simp (maxSteps := 1000000) [hF]) ?_;rintro av X κ ⟨rfl, rfl, rfl⟩;simp (maxSteps := 1000000) [hF]
 repeat first|refine n1 ?_|(refine rg 2 [1, 2, 7, 8, 9] [6] [(1, 17), (7, 23), (13, 29)] ?_;simp (maxSteps := 1000000) [hF])
 refine (unit_c2 (playedOf L) f u).go [(1, []), (0, [])] (by simp (maxSteps := 1000000) [hF, dBk, eBk]) ?_;rintro av X κ ⟨rfl, rfl, rfl⟩;simp (maxSteps := 1000000) [hF, dBk, eBk]
 refine (grounds_c (playedOf L) f (by omega) k).go [(1, []), (0, [])] (by simp (maxSteps := 1000000) [hF, dBk, eBk]) ?_;rintro av X κ ⟨rfl, rfl, rfl⟩;simp (maxSteps := 1000000) [hF, dBk, eBk]
 refine (sane_ok).go [] (by simp (maxSteps := 1000000) [hF]) ?_;rintro av X κ ⟨rfl, rfl, rfl⟩;simp (maxSteps := 1000000) [hF]
 (try refine nr ?_);(repeat first|refine nb_ ?_|refine nl_ ?_);refine endK.o [6] [] [] ?_;simp [hF, retK, covers, mpre]
end Go.Proofs.Ytipokdbfdingmaa

/- Proved: GroundAsks returns true for every input, and its arguments read behind the call as before. No condition. -/
namespace Go.Proofs.Ytipokdbfdingmaa.groundAsks
set_option linter.all false
open Go.Vc Go.ChangeShapes Go.WideShapes Go.ChangeAt Go.RowKit
set_option linter.unusedVariables false
theorem own : ownKnob Try.prog.godebug = none := by kernel_rfl
theorem laid : laidOutB Try.prog = true := by kernel_rfl
set_option maxRecDepth 100000 in
theorem lifted (os : Os) (started : os.Started) (H : Type) (enc : TypeId × Value → H) :
    ReturnsInHanded {} Try.checked os 7 .any (Rows.groundAsksSpec.pre6 enc Try.prog Try.f7 Rows.groundAsksRow.domain false) (Rows.groundAsksSpec.post enc Try.prog Try.f7 false true false false) := by
  refine returnsInHanded_of_change (C := Try.checked) own started (by kernel_rfl) Try.func7
    (ChangeSpec.witness6 (enc := enc) (C := Try.checked) false ⟨#[], #[.slice none 0 0, .int .i64 0, .string .empty], []⟩ 8 (by kernel_rfl) (by kernel_rfl) (by kernel_rfl) (by kernel_rfl)) ?_
  intro W base args ds gs before hval0 hW hcnd _
  have hval : ∀ (j : Nat) t v, Try.f7.params[j]? = some t → args[j]? = some v → Value.okWide Try.prog W .any base t v := hval0
  have hW' := hW
  obtain ⟨p, q, hA0, hV, rfl, hfz, hnd⟩ := hW
  have hA : DataW.TrodAll enc Try.prog W 0 (fun _ => true) true Try.f7.params.toList args.toList ds p := hA0
  rw [Try.params7] at hA hval
  obtain ⟨v0, vs0, d0, ds0, p0, q0, hargs0, rfl, rfl, h0, r0⟩ := trodAll_cons hA
  obtain ⟨v1, vs1, d1, ds1, p1, q1, hargs1, rfl, rfl, h1, r1⟩ := trodAll_cons r0
  obtain ⟨v2, vs2, d2, ds2, p2, q2, hargs2, rfl, rfl, h2, r2⟩ := trodAll_cons r1
  obtain ⟨rfl, rfl, rfl⟩ := trodAll_nil r2
  subst hargs2
  subst hargs1
  obtain rfl : args = #[v0, v1, v2] := by cases args; simp_all
  obtain ⟨rfl, rfl⟩ := trodVars_none hV
  obtain ⟨a0, hlen0, hr0⟩ := deeds_of (hval 0 22 v0 rfl rfl) h0
  obtain ⟨a1, hr1⟩ := int_of (hval 1 3 v1 rfl rfl) h1
  obtain ⟨a2, hr2⟩ := str_of (hval 2 9 v2 rfl rfl) h2
  clear hA0 hval0
  have hwalk : Calls Try.prog 7 #[v0, v1, v2] W fun e w' => e = .returned (.bool true) ∧ Below W.heap.size W w' :=
    Meets.law (asks_ok a0 false a1 a2) (vs := [v0, v1, v2]) (I := allB W) (fun _ h => h) ⟨v0, _, rfl, hr0, ⟨v1, _, rfl, hr1, ⟨v2, _, rfl, hr2, rfl⟩⟩⟩
  refine hwalk.mono fun e W' ⟨he, bel⟩ => ?_
  subst he
  exact ⟨_, rfl, _, _, _, [], _, [], hW', trodAll_mk1 (shut_bool Try.underlying4 _), (trodAll_cons_mk (Below.trod laid (by kernel_rfl) (of_decide_eq_true (by kernel_rfl)) h0 bel fun x hx => hW'.lt x (by simp [hx])) (trodAll_cons_mk (Below.trod laid (by kernel_rfl) (of_decide_eq_true (by kernel_rfl)) h1 bel fun x hx => hW'.lt x (by simp [hx])) (trodAll_cons_mk (Below.trod laid (by kernel_rfl) (of_decide_eq_true (by kernel_rfl)) h2 bel fun x hx => hW'.lt x (by simp [hx])) trodAll_mk0))), rfl, bel.frame _, fun h => by cases h⟩
theorem over : Rows.groundAsksRow.holds Try.pinned (OpenSpec.ofChange Rows.groundAsksSpec) :=
  OpenClaim.holds_of_wide 7 Try.f7 rfl rfl rfl rfl rfl rfl rfl ⟨rfl, rfl, rfl, rfl, rfl⟩ rfl rfl rfl rfl rfl (by kernel_rfl) Try.func7 (by kernel_rfl)
    (of_decide_eq_true (by kernel_rfl)) (by unfold Func.isWrapper; first | (rw [if_pos (by decide +kernel)]; kernel_rfl) | (rw [if_neg (by decide +kernel)]; exact ⟨rfl, rfl⟩))
    (fun os started H enc _ => lifted os started H enc)
theorem proved : Rows.GroundAsksSaid :=
  over
end Go.Proofs.Ytipokdbfdingmaa.groundAsks
