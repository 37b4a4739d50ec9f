/- IsolateAsks. -/
import Derived.Test.YtkkbcpcihadkhaaK7
import Derived.Test.YtkkbcpcihadkhaaRows
import Derived.Test.YtkkbcpcihadkhaaK8
import Derived.WalkKit
import Derived.ProofKit
import Derived.OpenShut
import Derived.ShutString
import Derived.ChangeOld
import Derived.Carry
namespace Go.Proofs.Ytkkbcpcihadkhaa
set_option linter.all false
open Go.Vc Go.Proofs
set_option linter.unusedSimpArgs false
set_option linter.unusedVariables false
set_option maxRecDepth 100000
set_option maxHeartbeats 4000000
attribute [local irreducible] CallW EqK
def avAsk (a b c : Int) : AV := .agg (.cons (avInt a) (.cons (avInt b) (.cons (avInt c) .nil)))
theorem asks_ok (nn : Int) (L : List Ld) (ex : Bool) (a b c : Int) : Meets Try.prog 7 [] (.cons (avInt nn) (.cons (.imm 6 (dLds L) ex) (.cons (avAsk a b c) .nil))) fun av X κ => av = .val (.bool true) := by
 unfold avAsk
 refine fb Try.func7 Try.ntmps7 [.tmp 6] fun w0 I0 F0 hF => ?_
 repeat first|refine n1 ?_|((first|refine rg 0 [0, 1, 2] [0, 1, 5] [] ?_|refine rg 1 [0, 1, 5] [5, 7, 8, 9] [] ?_);simp (maxSteps := 1000000) [hF])
 refine (played_ok nn L ex).go [] (by simp (maxSteps := 1000000) [hF]) ?_;rintro av X κ ⟨n, h, fl, h1, h2, hf, rfl, rfl, rfl⟩;simp (maxSteps := 1000000) [hF]
 have hok := hf.good.ok
 have hrl := hf.rooms
 have htl := hok.things
 have hg : eH h fl = .box true () (.agg (.cons (.val (.bool true)) (.cons (.sl true () 2 (eRmsF fl h.rooms)) (.cons (.sl true () 5 (eTgs true h.things)) .nil)))) := rfl
 have ht : ∀ w x i : Int, _ := fun w x i => thing_c h fl hok w x i
 rw [hg] at ht
 repeat first|refine n1 ?_|refine n2 ?_|((first|refine rg 2 [5, 7, 8, 9] [5, 7, 8, 18] [] ?_|(refine dr 4 0 [5, 7, 8] [6] [(9, 28), (33, 52)] [⟨0, 128, 524288, 5⟩, ⟨0, 256, 1048576, 5⟩, ⟨0, 32, 2097152, 5⟩, ⟨4, 2097152, 4194304, 6⟩, ⟨0, 32, 8388608, 5⟩, ⟨16, 8388608, 16777216, 6⟩, ⟨0, 32, 33554432, 5⟩, ⟨64, 33554432, 67108864, 6⟩, ⟨171, 89653248, 134217728, 0⟩, ⟨256, 134217728, 268435456, 5⟩, ⟨512, 268435584, 536870912, 5⟩, ⟨512, 268435712, 1073741824, 5⟩, ⟨512, 268435488, 2147483648, 5⟩, ⟨4608, 2415919104, 4294967296, 6⟩, ⟨512, 268435712, 8589934592, 5⟩, ⟨16896, 8858370048, 17179869184, 5⟩, ⟨33280, 17448304640, 34359738368, 5⟩, ⟨66048, 34628173824, 68719476736, 6⟩, ⟨131584, 68987912192, 137438953472, 5⟩, ⟨270848, 142002356224, 274877906944, 0⟩, ⟨512, 268435488, 549755813888, 5⟩, ⟨1049088, 550024249344, 1099511627776, 6⟩, ⟨512, 268435712, 2199023255552, 5⟩, ⟨4194816, 2199291691008, 4398046511104, 5⟩, ⟨8389120, 4398314946560, 8796093022208, 5⟩, ⟨16777728, 8796361457664, 17592186044416, 6⟩, ⟨33554944, 17592454479872, 35184372088832, 5⟩, ⟨69730816, 36284152152064, 70368744177664, 0⟩, ⟨512, 268435488, 140737488355328, 5⟩, ⟨268435968, 140737756790784, 281474976710656, 6⟩, ⟨671089152, 281475245146112, 562949953421312, 0⟩, ⟨1208487424, 633595454554112, 1125899906842624, 0⟩, ⟨2147484160, 1125900175278080, 2251799813685248, 5⟩, ⟨6442450944, 2251799813685248, 4503599627370496, 5⟩, ⟨8589934592, 4503599627370496, 9007199254740992, 0⟩, ⟨25769803776, 13510798882111488, 18014398509481984, 5⟩, ⟨68719476735, 18014398509481984, 64, 5⟩] (.take 0 (.take 1 (.take 2 (.take 3 (.take 4 (.take 5 (.take 6 (.take 7 (.fork (.alt 8 (.take 9 (.take 10 (.take 11 (.take 12 (.take 13 (.take 14 (.take 15 (.take 16 (.take 17 (.take 18 (.take 20 (.take 22 (.take 23 (.take 24 (.take 28 (.fork (.alt 19 (.take 21 (.take 25 (.take 26 (.fork (.alt 27 (.take 29 (.fork (.alt 30 (.fork (.alt 31 (.take 32 (.take 33 (.fork (.alt 34 (.take 35 (.take 36 (.done))) (.nil))))) (.nil))) (.nil)))) (.alt 29 (.fork (.alt 27 (.fork (.alt 30 (.fork (.alt 31 (.take 32 (.take 33 (.fork (.alt 34 (.take 35 (.take 36 (.done))) (.nil))))) (.nil))) (.nil))) (.nil))) (.nil))))))) (.alt 21 (.fork (.alt 19 (.take 25 (.take 26 (.fork (.alt 27 (.take 29 (.fork (.alt 30 (.fork (.alt 31 (.take 32 (.take 33 (.fork (.alt 34 (.take 35 (.take 36 (.done))) (.nil))))) (.nil))) (.nil)))) (.alt 29 (.fork (.alt 27 (.fork (.alt 30 (.fork (.alt 31 (.take 32 (.take 33 (.fork (.alt 34 (.take 35 (.take 36 (.done))) (.nil))))) (.nil))) (.nil))) (.nil))) (.nil)))))) (.alt 25 (.take 26 (.fork (.alt 19 (.fork (.alt 27 (.take 29 (.fork (.alt 30 (.fork (.alt 31 (.take 32 (.take 33 (.fork (.alt 34 (.take 35 (.take 36 (.done))) (.nil))))) (.nil))) (.nil)))) (.alt 29 (.fork (.alt 27 (.fork (.alt 30 (.fork (.alt 31 (.take 32 (.take 33 (.fork (.alt 34 (.take 35 (.take 36 (.done))) (.nil))))) (.nil))) (.nil))) (.nil))) (.nil)))) (.alt 29 (.fork (.alt 19 (.fork (.alt 27 (.fork (.alt 30 (.fork (.alt 31 (.take 32 (.take 33 (.fork (.alt 34 (.take 35 (.take 36 (.done))) (.nil))))) (.nil))) (.nil))) (.nil))) (.nil))) (.nil))))) (.alt 29 (.fork (.alt 19 (.take 25 (.take 26 (.fork (.alt 27 (.fork (.alt 30 (.fork (.alt 31 (.take 32 (.take 33 (.fork (.alt 34 (.take 35 (.take 36 (.done))) (.nil))))) (.nil))) (.nil))) (.nil))))) (.alt 25 (.take 26 (.fork (.alt 19 (.fork (.alt 27 (.fork (.alt 30 (.fork (.alt 31 (.take 32 (.take 33 (.fork (.alt 34 (.take 35 (.take 36 (.done))) (.nil))))) (.nil))) (.nil))) (.nil))) (.nil)))) (.nil)))) (.nil))))) (.alt 25 (.take 26 (.fork (.alt 19 (.take 21 (.fork (.alt 27 (.take 29 (.fork (.alt 30 (.fork (.alt 31 (.take 32 (.take 33 (.fork (.alt 34 (.take 35 (.take 36 (.done))) (.nil))))) (.nil))) (.nil)))) (.alt 29 (.fork (.alt 27 (.fork (.alt 30 (.fork (.alt 31 (.take 32 (.take 33 (.fork (.alt 34 (.take 35 (.take 36 (.done))) (.nil))))) (.nil))) (.nil))) (.nil))) (.nil))))) (.alt 21 (.fork (.alt 19 (.fork (.alt 27 (.take 29 (.fork (.alt 30 (.fork (.alt 31 (.take 32 (.take 33 (.fork (.alt 34 (.take 35 (.take 36 (.done))) (.nil))))) (.nil))) (.nil)))) (.alt 29 (.fork (.alt 27 (.fork (.alt 30 (.fork (.alt 31 (.take 32 (.take 33 (.fork (.alt 34 (.take 35 (.take 36 (.done))) (.nil))))) (.nil))) (.nil))) (.nil))) (.nil)))) (.alt 29 (.fork (.alt 19 (.fork (.alt 27 (.fork (.alt 30 (.fork (.alt 31 (.take 32 (.take 33 (.fork (.alt 34 (.take 35 (.take 36 (.done))) (.nil))))) (.nil))) (.nil))) (.nil))) (.nil))) (.nil)))) (.alt 29 (.fork (.alt 19 (.take 21 (.fork (.alt 27 (.fork (.alt 30 (.fork (.alt 31 (.take 32 (.take 33 (.fork (.alt 34 (.take 35 (.take 36 (.done))) (.nil))))) (.nil))) (.nil))) (.nil)))) (.alt 21 (.fork (.alt 19 (.fork (.alt 27 (.fork (.alt 30 (.fork (.alt 31 (.take 32 (.take 33 (.fork (.alt 34 (.take 35 (.take 36 (.done))) (.nil))))) (.nil))) (.nil))) (.nil))) (.nil))) (.nil)))) (.nil)))))) (.alt 29 (.fork (.alt 19 (.take 21 (.take 25 (.take 26 (.fork (.alt 27 (.fork (.alt 30 (.fork (.alt 31 (.take 32 (.take 33 (.fork (.alt 34 (.take 35 (.take 36 (.done))) (.nil))))) (.nil))) (.nil))) (.nil)))))) (.alt 21 (.fork (.alt 19 (.take 25 (.take 26 (.fork (.alt 27 (.fork (.alt 30 (.fork (.alt 31 (.take 32 (.take 33 (.fork (.alt 34 (.take 35 (.take 36 (.done))) (.nil))))) (.nil))) (.nil))) (.nil))))) (.alt 25 (.take 26 (.fork (.alt 19 (.fork (.alt 27 (.fork (.alt 30 (.fork (.alt 31 (.take 32 (.take 33 (.fork (.alt 34 (.take 35 (.take 36 (.done))) (.nil))))) (.nil))) (.nil))) (.nil))) (.nil)))) (.nil)))) (.alt 25 (.take 26 (.fork (.alt 19 (.take 21 (.fork (.alt 27 (.fork (.alt 30 (.fork (.alt 31 (.take 32 (.take 33 (.fork (.alt 34 (.take 35 (.take 36 (.done))) (.nil))))) (.nil))) (.nil))) (.nil)))) (.alt 21 (.fork (.alt 19 (.fork (.alt 27 (.fork (.alt 30 (.fork (.alt 31 (.take 32 (.take 33 (.fork (.alt 34 (.take 35 (.take 36 (.done))) (.nil))))) (.nil))) (.nil))) (.nil))) (.nil))) (.nil))))) (.nil))))) (.nil))))))))))))))))))))) (.nil))))))))))) (.run [0, 1, 2, 3, 4, 5, 6, 7, 8, 9, 10, 11, 12, 13, 14, 15, 16, 17, 18, 20, 22, 23, 24, 28] (.both (.run [19, 21, 25, 26] (.both (.run [27, 29, 30, 31, 32, 33, 34, 35, 36] (.done)) (.run [29, 27, 30, 31, 32, 33, 34, 35, 36] (.done)))) (.both (.run [21] (.both (.run [19, 25, 26] (.both (.run [27, 29, 30, 31, 32, 33, 34, 35, 36] (.done)) (.run [29, 27, 30, 31, 32, 33, 34, 35, 36] (.done)))) (.both (.run [25, 26] (.both (.run [19] (.both (.run [27, 29, 30, 31, 32, 33, 34, 35, 36] (.done)) (.run [29, 27, 30, 31, 32, 33, 34, 35, 36] (.done)))) (.run [29, 19, 27, 30, 31, 32, 33, 34, 35, 36] (.done)))) (.run [29] (.both (.run [19, 25, 26, 27, 30, 31, 32, 33, 34, 35, 36] (.done)) (.run [25, 26, 19, 27, 30, 31, 32, 33, 34, 35, 36] (.done))))))) (.both (.run [25, 26] (.both (.run [19, 21] (.both (.run [27, 29, 30, 31, 32, 33, 34, 35, 36] (.done)) (.run [29, 27, 30, 31, 32, 33, 34, 35, 36] (.done)))) (.both (.run [21] (.both (.run [19] (.both (.run [27, 29, 30, 31, 32, 33, 34, 35, 36] (.done)) (.run [29, 27, 30, 31, 32, 33, 34, 35, 36] (.done)))) (.run [29, 19, 27, 30, 31, 32, 33, 34, 35, 36] (.done)))) (.run [29] (.both (.run [19, 21, 27, 30, 31, 32, 33, 34, 35, 36] (.done)) (.run [21, 19, 27, 30, 31, 32, 33, 34, 35, 36] (.done))))))) (.run [29] (.both (.run [19, 21, 25, 26, 27, 30, 31, 32, 33, 34, 35, 36] (.done)) (.both (.run [21] (.both (.run [19, 25, 26, 27, 30, 31, 32, 33, 34, 35, 36] (.done)) (.run [25, 26, 19, 27, 30, 31, 32, 33, 34, 35, 36] (.done)))) (.run [25, 26] (.both (.run [19, 21, 27, 30, 31, 32, 33, 34, 35, 36] (.done)) (.run [21, 19, 27, 30, 31, 32, 33, 34, 35, 36] (.done))))))))))) ?_;simp only [drs])|refine nc ?_);simp (maxSteps := 1000000) [hF, hg])
 all_goals (repeat' with_reducible refine And.intro ?_ ?_)
 all_goals (refine (thing_c h fl hok a b c).go [(2, []), (1, [])] (by simp (maxSteps := 1000000) [hF, hg, dH]) ?_;rintro av X κ ⟨rfl, rfl, rfl⟩;simp (maxSteps := 1000000) [hF, hg, dH])
 all_goals (repeat' with_reducible refine And.intro ?_ ?_)
 all_goals (refine (fit_ok a h.rooms.length (by omega)).go [] (by simp (maxSteps := 1000000) [hF, hg]) ?_;rintro av X κ ⟨rfl, rfl, rfl⟩;simp (maxSteps := 1000000) [hF, hg])
 all_goals (repeat' with_reducible refine And.intro ?_ ?_)
 all_goals (refine (fit_ok b h.things.length (by omega)).go [] (by simp (maxSteps := 1000000) [hF, hg]) ?_;rintro av X κ ⟨rfl, rfl, rfl⟩;simp (maxSteps := 1000000) [hF, hg])
 all_goals (repeat' with_reducible refine And.intro ?_ ?_)
 all_goals (refine (fit_ok c 4 (by omega)).go [] (by simp (maxSteps := 1000000) [hF, hg]) ?_;rintro av X κ ⟨rfl, rfl, rfl⟩;simp (maxSteps := 1000000) [hF, hg])
 all_goals (repeat' with_reducible refine And.intro ?_ ?_)
 all_goals (refine (thing_c h fl hok (fitN a h.rooms.length) (fitN b h.things.length) (fitN c 4)).go [(2, []), (1, [])] (by simp (maxSteps := 1000000) [hF, hg, dH]) ?_;rintro av X κ ⟨rfl, rfl, rfl⟩;simp (maxSteps := 1000000) [hF, hg, dH])
 all_goals (repeat' with_reducible refine And.intro ?_ ?_)
 all_goals (refine (sane_ok).go [] (by simp (maxSteps := 1000000) [hF, hg]) ?_;rintro av X κ ⟨rfl, rfl, rfl⟩;simp (maxSteps := 1000000) [hF, hg])
 all_goals (repeat' with_reducible refine And.intro ?_ ?_)
 all_goals ((try refine nr ?_);(repeat first|refine nb_ ?_|refine nl_ ?_);refine endK.o [6] [] [] ?_;simp [hF, retK, covers, mpre])
end Go.Proofs.Ytkkbcpcihadkhaa

/- Proved: IsolateAsks returns true for every input, and its arguments read behind the call as before. No condition. -/
namespace Go.Proofs.Ytkkbcpcihadkhaa.isolateAsks
set_option linter.all false
open Go.Vc Go.ChangeShapes Go.WideShapes Go.ChangeAt Go.RowKit
set_option linter.unusedVariables false
theorem own : ownKnob Try.prog.godebug = none := by kernel_rfl
theorem laid : laidOutB Try.prog = true := by kernel_rfl
set_option maxRecDepth 100000 in
theorem lifted (os : Os) (started : os.Started) (H : Type) (enc : TypeId × Value → H) :
    ReturnsInHanded {} Try.checked os 7 .any (Rows.isolateAsksSpec.pre6 enc Try.prog Try.f7 Rows.isolateAsksRow.domain false) (Rows.isolateAsksSpec.post enc Try.prog Try.f7 false true false false) := by
  refine returnsInHanded_of_change (C := Try.checked) own started (by kernel_rfl) Try.func7
    (ChangeSpec.witness6 (enc := enc) (C := Try.checked) false ⟨#[], #[.int .i64 0, .slice none 0 0, .agg #[.int .i64 0, .int .i64 0, .int .i64 0]], []⟩ 8 (by kernel_rfl) (by kernel_rfl) (by kernel_rfl) (by kernel_rfl)) ?_
  intro W base args ds gs before hval0 hW hcnd _
  have hval : ∀ (j : Nat) t v, Try.f7.params[j]? = some t → args[j]? = some v → Value.okWide Try.prog W .any base t v := hval0
  have hW' := hW
  obtain ⟨p, q, hA0, hV, rfl, hfz, hnd⟩ := hW
  have hA : DataW.TrodAll enc Try.prog W 0 (fun _ => true) true Try.f7.params.toList args.toList ds p := hA0
  rw [Try.params7] at hA hval
  obtain ⟨v0, vs0, d0, ds0, p0, q0, hargs0, rfl, rfl, h0, r0⟩ := trodAll_cons hA
  obtain ⟨v1, vs1, d1, ds1, p1, q1, hargs1, rfl, rfl, h1, r1⟩ := trodAll_cons r0
  obtain ⟨v2, vs2, d2, ds2, p2, q2, hargs2, rfl, rfl, h2, r2⟩ := trodAll_cons r1
  obtain ⟨rfl, rfl, rfl⟩ := trodAll_nil r2
  subst hargs2
  subst hargs1
  obtain rfl : args = #[v0, v1, v2] := by cases args; simp_all
  obtain ⟨rfl, rfl⟩ := trodVars_none hV
  obtain ⟨a0, hr0⟩ := int_of (hval 0 3 v0 rfl rfl) h0
  obtain ⟨a1, hlen1, hr1⟩ := deeds_of (hval 1 22 v1 rfl rfl) h1
  obtain ⟨a2, hr2⟩ := ask_of (hval 2 24 v2 rfl rfl) h2
  clear hA0 hval0
  have hwalk : Calls Try.prog 7 #[v0, v1, v2] W fun e w' => e = .returned (.bool true) ∧ Below W.heap.size W w' :=
    Meets.law (asks_ok a0 a1 false a2.1 a2.2.1 a2.2.2) (vs := [v0, v1, v2]) (I := allB W) (fun _ h => h) ⟨v0, _, rfl, hr0, ⟨v1, _, rfl, hr1, ⟨v2, _, rfl, hr2, rfl⟩⟩⟩
  refine hwalk.mono fun e W' ⟨he, bel⟩ => ?_
  subst he
  exact ⟨_, rfl, _, _, _, [], _, [], hW', trodAll_mk1 (shut_bool Try.underlying4 _), (trodAll_cons_mk (Below.trod laid (by kernel_rfl) (of_decide_eq_true (by kernel_rfl)) h0 bel fun x hx => hW'.lt x (by simp [hx])) (trodAll_cons_mk (Below.trod laid (by kernel_rfl) (of_decide_eq_true (by kernel_rfl)) h1 bel fun x hx => hW'.lt x (by simp [hx])) (trodAll_cons_mk (Below.trod laid (by kernel_rfl) (of_decide_eq_true (by kernel_rfl)) h2 bel fun x hx => hW'.lt x (by simp [hx])) trodAll_mk0))), rfl, bel.frame _, fun h => by cases h⟩
theorem over : Rows.isolateAsksRow.holds Try.pinned (OpenSpec.ofChange Rows.isolateAsksSpec) :=
  OpenClaim.holds_of_wide 7 Try.f7 rfl rfl rfl rfl rfl rfl rfl ⟨rfl, rfl, rfl, rfl, rfl⟩ rfl rfl rfl rfl rfl (by kernel_rfl) Try.func7 (by kernel_rfl)
    (of_decide_eq_true (by kernel_rfl)) (by unfold Func.isWrapper; first | (rw [if_pos (by decide +kernel)]; kernel_rfl) | (rw [if_neg (by decide +kernel)]; exact ⟨rfl, rfl⟩))
    (fun os started H enc _ => lifted os started H enc)
theorem proved : Rows.IsolateAsksSaid :=
  over
end Go.Proofs.Ytkkbcpcihadkhaa.isolateAsks
