/- A deed of Play at the program's house. -/
import Derived.Test.YtkkbcpcihadkhaaK7
import Derived.Test.YtkkbcpcihadkhaaK5
import Derived.Test.YtkkbcpcihadkhaaK6
import Derived.Test.YtkkbcpcihadkhaaK8
import Derived.Test.YtkkbcpcihadkhaaRows
import Derived.WalkKit
import Derived.ProofKit
import Derived.OpenShut
import Derived.ShutString
import Derived.ChangeOld
import Derived.Carry
namespace Go.Proofs.Ytkkbcpcihadkhaa
set_option linter.all false
open Go.Vc Go.Proofs
set_option linter.unusedSimpArgs false
set_option linter.unusedVariables false
set_option maxRecDepth 100000
set_option maxHeartbeats 4000000
attribute [local irreducible] CallW EqK
structure Id5 where
 d : Int
 who : Int
 a : Int
 b : Int
 c : Int
def keepN (x : Int) : Bool := !decide (x < 0)
def ldOf (d : Id5) : Ld := ⟨d.d, d.who, d.a, d.b, d.c, [d.a, d.b, d.c].filter keepN⟩
def pdoE (h : Hs) (d : Id5) : Hs × Int × Int := if d.d < 0 ∨ 9 < d.d then (h, -1, 0) else doE h (ldOf d)
def toldE (r : Int × Int) : Int := if ¬ r.2 = 0 then IntKind.i64.wrap (-r.2) else r.1
theorem f_pdo {n : Nat} {h : Hs} (f : Fine n h) (d : Id5) : Fine n (pdoE h d).1 := by
 rw [pdoE]; split
 ·exact f
 ·exact f_do f _
def dId (d : Id5) : D := .agg (.cons (.val (.int .i64 d.d)) (.cons (.val (.int .i64 d.who)) (.cons (.val (.int .i64 d.a)) (.cons (.val (.int .i64 d.b)) (.cons (.val (.int .i64 d.c)) .nil)))))
def dIds (l : List Id5) : D := sq (l.map dId)
def avId (d : Id5) : AV := .agg (.cons (avInt d.d) (.cons (avInt d.who) (.cons (avInt d.a) (.cons (avInt d.b) (.cons (avInt d.c) .nil)))))
@[simp] theorem dIds_len (l : List Id5) : (dIds l).len = l.length := by simp [dIds]
@[simp] theorem dIds_free (l : List Id5) : (dIds l).free = true := sq_free fun x hx => by obtain ⟨n, _, rfl⟩ := List.mem_map.1 hx; simp [dId]
theorem dIds_nth {l : List Id5} {i : Nat} (h : i < l.length) : (dIds l).nth i = .agg (.cons (.val (.int .i64 l[i].d)) (.cons (.val (.int .i64 l[i].who)) (.cons (.val (.int .i64 l[i].a)) (.cons (.val (.int .i64 l[i].b)) (.cons (.val (.int .i64 l[i].c)) .nil))))) := by
 rw [dIds, sq_nth_lt (by simpa using h)]; simp; rfl
theorem neg_ok (x : Int) : Meets Try.prog 97 [] (.cons (avInt x) .nil) fun av X κ => av = avBool (decide (x < 0)) ∧ X = [] ∧ κ = [] := by
 refine fb Try.func97 Try.ntmps97 [.tmp 2] fun w0 I0 F0 hF => ?_
 repeat first|refine n1 ?_|((first|refine rg 0 [0] [0] [] ?_|refine rg 1 [0] [2] [] ?_);simp (maxSteps := 1000000) [hF])
 (try refine nr ?_);(repeat first|refine nb_ ?_|refine nl_ ?_);refine endK.o [2] [] [] ?_;simp [hF, retK, covers, mpre]
theorem delNeg_ok (ls : List Int) (hl : ls.length ≤ 100000000) (ex : Bool) : Meets Try.prog 81 [.sl true () 1 (dInts ls)] (.cons (.sub 0 [] 0 ls.length ex) (.cons (.fn 97 .nil) .nil))
  fun av X κ => ∃ e z, av = .sub 0 [] 0 (ls.filter keepN).length e ∧ X = [.sl true () 1 (dInts (ls.filter keepN ++ z))] ∧ κ = [(0, [.i 0])] :=
 Meets.mono (deleteFunc_ds ex ls hl (fun x => decide (x < 0)) fun i _ => neg_ok _) fun av X κ ⟨e, z, _, h2, h3, h4⟩ => ⟨e, z, h2, h3, h4⟩
theorem do_ok {n : Nat} {h : Hs} (f : Fine n h) (d : Id5) : Meets Try.prog 64 [dH (norm h)] (.cons (.ptr 0 [.d]) (.cons (avId d) .nil))
  fun av X κ => av = two (pdoE h d).2 ∧ X = [dH (norm (pdoE h d).1)] ∧ κ = [(0, [.d])] := by
 have hok := f.good.ok
 have hkn := norm_hok.2 hok
 have htl := hok.things
 have htn : (norm h).things.length ≤ 400 := by simpa [norm] using htl
 unfold avId
 refine fb Try.func64 Try.ntmps64 [.tmp 4, .tmp 5] fun w0 I0 F0 hF => ?_
 repeat first|refine n1 ?_|refine n3 ?_|((first|refine rg 0 [0, 1] [0, 3] [] ?_|refine rg 1 [0, 3] [0, 3, 7] [] ?_|refine rg 2 [0, 3, 7] [0, 3, 7, 8] [] ?_|refine nc ?_);simp (maxSteps := 1000000) [hF])
 refine ⟨fun h0 => ?_, fun h0 => ?_⟩
 ·have hc : pdoE h d = leafOf h d.who d.a := by rw [pdoE, if_neg (by omega)]; simp [doE, ldOf, h0]
  repeat first|refine n1 ?_|(refine rg 3 [0, 3] [4, 5] [] ?_;simp (maxSteps := 1000000) [hF])
  refine (leaf_ok (norm h) htn d.who d.a).go [(0, [])] (by simp (maxSteps := 1000000) [hF, t_leaf, nrm, dH]) ?_;rintro av X κ ⟨rfl, rfl, rfl⟩;simp (maxSteps := 1000000) [hF, t_leaf, nrm, dH]
  refine VS.widen [(0, [.d])] (by simp [covers, mpre]) ?_
  (try refine nr ?_);(repeat first|refine nb_ ?_|refine nl_ ?_);refine endK.o [4, 5] [0] [(0, [.d])] ?_;simp [hF, retK, covers, mpre, dH, hc]
 ·repeat first|refine n1 ?_|((first|refine rg 4 [0, 3, 7] [0, 3, 7, 18] [] ?_|refine nc ?_);simp (maxSteps := 1000000) [hF])
  refine ⟨fun h1 => ?_, fun h1 => ?_⟩
  ·have hc : pdoE h d = listOf h d.who ([d.a, d.b, d.c].filter keepN) := by rw [pdoE, if_neg (by omega)]; simp [doE, ldOf, h1]
   have h3 : dInts [d.a, d.b, d.c] = .cons (.val (.int .i64 d.a)) (.cons (.val (.int .i64 d.b)) (.cons (.val (.int .i64 d.c)) .nil)) := rfl
   have hfl : ([d.a, d.b, d.c].filter keepN).length ≤ 100000000 := Nat.le_trans (List.length_filter_le _ _) (by simp)
   repeat first|refine n1 ?_|((refine dr 5 0 [0, 3] [4, 5] [] [⟨0, 1, 1048576, 5⟩, ⟨0, 8, 2097152, 5⟩, ⟨2, 2097152, 4194304, 6⟩, ⟨0, 8, 8388608, 5⟩, ⟨8, 8388608, 16777216, 6⟩, ⟨0, 8, 33554432, 5⟩, ⟨32, 33554432, 67108864, 6⟩, ⟨0, 8, 134217728, 5⟩, ⟨128, 134217728, 268435456, 6⟩, ⟨336, 352321536, 536870912, 4⟩, ⟨512, 536870912, 1073741824, 0⟩, ⟨1029, 1078984704, 2147483648, 0⟩, ⟨2048, 2147483648, 4294967296, 5⟩, ⟨2048, 2147483648, 8589934592, 5⟩, ⟨16383, 4294967296, 16, 5⟩, ⟨32767, 8589934592, 32, 5⟩] (.take 0 (.take 1 (.take 3 (.take 4 (.take 5 (.take 6 (.take 7 (.take 8 (.fork (.alt 2 (.fork (.alt 9 (.fork (.alt 10 (.fork (.alt 11 (.take 12 (.take 13 (.take 14 (.take 15 (.done))))) (.nil))) (.nil))) (.nil))) (.alt 9 (.fork (.alt 2 (.fork (.alt 10 (.fork (.alt 11 (.take 12 (.take 13 (.take 14 (.take 15 (.done))))) (.nil))) (.nil))) (.alt 10 (.take 2 (.fork (.alt 11 (.take 12 (.take 13 (.take 14 (.take 15 (.done))))) (.nil)))) (.nil)))) (.nil)))))))))))) (.run [0, 1, 3, 4, 5, 6, 7, 8] (.both (.run [2, 9, 10, 11, 12, 13, 14, 15] (.done)) (.run [9] (.both (.run [2, 10, 11, 12, 13, 14, 15] (.done)) (.run [10, 2, 11, 12, 13, 14, 15] (.done)))))) ?_;simp only [drs]);simp (maxSteps := 1000000) [hF])
   (repeat' with_reducible refine And.intro ?_ ?_)
   all_goals (refine (delNeg_ok [d.a, d.b, d.c] (by simp) true).go [(2, [])] (by simp (maxSteps := 1000000) [hF, h3]) ?_;rintro av X κ ⟨e, z, rfl, rfl, rfl⟩;simp (maxSteps := 1000000) [hF, h3])
   all_goals (repeat' with_reducible refine And.intro ?_ ?_)
   all_goals (refine (list_r (norm h) htn d.who ([d.a, d.b, d.c].filter keepN) z e hfl).go [(2, []), (0, [])] (by simp (maxSteps := 1000000) [hF, t_list, nrm, dH]) ?_;rintro av X κ ⟨rfl, rfl, rfl⟩;simp (maxSteps := 1000000) [hF, t_list, nrm, dH])
   all_goals (repeat' with_reducible refine And.intro ?_ ?_)
   all_goals (refine VS.widen [(0, [.d])] (by simp [covers, mpre]) ?_)
   all_goals ((try refine nr ?_);(repeat first|refine nb_ ?_|refine nl_ ?_);refine endK.o [4, 5] [0] [(0, [.d])] ?_;simp [hF, retK, covers, mpre, dH, hc])
  ·repeat first|refine n1 ?_|((first|refine rg 6 [0, 3, 7] [0, 3, 7, 34] [] ?_|refine nc ?_);simp (maxSteps := 1000000) [hF])
   refine ⟨fun h2 => ?_, fun h2 => ?_⟩
   ·have hc : pdoE h d = ((setE h d.who d.a d.b d.c).1, 0, (setE h d.who d.a d.b d.c).2) := by rw [pdoE, if_neg (by omega)]; simp [doE, ldOf, h2]
    repeat first|refine n1 ?_|(refine rg 7 [0, 3] [4, 5] [] ?_;simp (maxSteps := 1000000) [hF])
    refine (set_ok (norm h) hkn d.who d.a d.b d.c).go [(0, [])] (by simp (maxSteps := 1000000) [hF, t_set, nrm, dH]) ?_;rintro av X κ ⟨rfl, rfl, rfl⟩;simp (maxSteps := 1000000) [hF, t_set, nrm, dH]
    refine VS.widen [(0, [.d])] (by simp [covers, mpre]) ?_
    (try refine nr ?_);(repeat first|refine nb_ ?_|refine nl_ ?_);refine endK.o [4, 5] [0] [(0, [.d])] ?_;simp [hF, retK, covers, mpre, dH, hc]
   ·repeat first|refine n1 ?_|((first|refine rg 8 [0, 3, 7] [0, 3, 7, 46] [] ?_|refine nc ?_);simp (maxSteps := 1000000) [hF])
    refine ⟨fun h3 => ?_, fun h3 => ?_⟩
    ·have hc : pdoE h d = ((pushE h d.who d.a d.b).1, 0, (pushE h d.who d.a d.b).2) := by rw [pdoE, if_neg (by omega)]; simp [doE, ldOf, h3]
     repeat first|refine n1 ?_|(refine rg 9 [0, 3] [4, 5] [] ?_;simp (maxSteps := 1000000) [hF])
     refine (push_ok (norm h) hkn d.who d.a d.b).go [(0, [])] (by simp (maxSteps := 1000000) [hF, t_push, nrm, dH]) ?_;rintro av X κ ⟨rfl, rfl, rfl⟩;simp (maxSteps := 1000000) [hF, t_push, nrm, dH]
     refine VS.widen [(0, [.d])] (by simp [covers, mpre]) ?_
     (try refine nr ?_);(repeat first|refine nb_ ?_|refine nl_ ?_);refine endK.o [4, 5] [0] [(0, [.d])] ?_;simp [hF, retK, covers, mpre, dH, hc]
    ·repeat first|refine n1 ?_|((first|refine rg 10 [0, 3, 7] [0, 3, 7, 56] [] ?_|refine nc ?_);simp (maxSteps := 1000000) [hF])
     refine ⟨fun h4 => ?_, fun h4 => ?_⟩
     ·have hc : pdoE h d = ((freezeE h d.who d.a).1, 0, (freezeE h d.who d.a).2) := by rw [pdoE, if_neg (by omega)]; simp [doE, ldOf, h4]
      repeat first|refine n1 ?_|(refine rg 11 [0, 3] [4, 5] [] ?_;simp (maxSteps := 1000000) [hF])
      refine (freeze_ok (norm h) hkn d.who d.a).go [(0, [])] (by simp (maxSteps := 1000000) [hF, t_freeze f.good.raw, nrm, dH]) ?_;rintro av X κ ⟨rfl, rfl, rfl⟩;simp (maxSteps := 1000000) [hF, t_freeze f.good.raw, nrm, dH]
      refine VS.widen [(0, [.d])] (by simp [covers, mpre]) ?_
      (try refine nr ?_);(repeat first|refine nb_ ?_|refine nl_ ?_);refine endK.o [4, 5] [0] [(0, [.d])] ?_;simp [hF, retK, covers, mpre, dH, hc]
     ·repeat first|refine n1 ?_|((first|refine rg 12 [0, 3, 7] [0, 3, 7, 64] [] ?_|refine nc ?_);simp (maxSteps := 1000000) [hF])
      refine ⟨fun h5 => ?_, fun h5 => ?_⟩
      ·have hc : pdoE h d = ((shareE h d.who d.a).1, 0, (shareE h d.who d.a).2) := by rw [pdoE, if_neg (by omega)]; simp [doE, ldOf, h5]
       repeat first|refine n1 ?_|(refine rg 13 [0, 3] [4, 5] [] ?_;simp (maxSteps := 1000000) [hF])
       refine (share_ok (norm h) hkn d.who d.a).go [(0, [])] (by simp (maxSteps := 1000000) [hF, t_share hok, nrm, dH]) ?_;rintro av X κ ⟨rfl, rfl, rfl⟩;simp (maxSteps := 1000000) [hF, t_share hok, nrm, dH]
       refine VS.widen [(0, [.d])] (by simp [covers, mpre]) ?_
       (try refine nr ?_);(repeat first|refine nb_ ?_|refine nl_ ?_);refine endK.o [4, 5] [0] [(0, [.d])] ?_;simp [hF, retK, covers, mpre, dH, hc]
      ·repeat first|refine n1 ?_|((first|refine rg 14 [0, 3, 7] [0, 3, 7, 72] [] ?_|refine nc ?_);simp (maxSteps := 1000000) [hF])
       refine ⟨fun h6 => ?_, fun h6 => ?_⟩
       ·have hc : pdoE h d = sendE h d.who d.a d.b := by rw [pdoE, if_neg (by omega)]; simp [doE, ldOf, h6]
        repeat first|refine n1 ?_|(refine rg 15 [0, 3] [4, 5] [] ?_;simp (maxSteps := 1000000) [hF])
        refine (send_ok (norm h) hkn d.who d.a d.b).go [(0, [])] (by simp (maxSteps := 1000000) [hF, t_send hok, nrm, dH]) ?_;rintro av X κ ⟨rfl, rfl, rfl⟩;simp (maxSteps := 1000000) [hF, t_send hok, nrm, dH]
        refine VS.widen [(0, [.d])] (by simp [covers, mpre]) ?_
        (try refine nr ?_);(repeat first|refine nb_ ?_|refine nl_ ?_);refine endK.o [4, 5] [0] [(0, [.d])] ?_;simp [hF, retK, covers, mpre, dH, hc]
       ·repeat first|refine n1 ?_|((first|refine rg 16 [0, 3, 7] [0, 3, 7, 84] [] ?_|refine nc ?_);simp (maxSteps := 1000000) [hF])
        refine ⟨fun h7 => ?_, fun h7 => ?_⟩
        ·have hc : pdoE h d = ((moveE h d.who d.a d.b).1, 0, (moveE h d.who d.a d.b).2) := by rw [pdoE, if_neg (by omega)]; simp [doE, ldOf, h7]
         repeat first|refine n1 ?_|(refine rg 17 [0, 3] [4, 5] [] ?_;simp (maxSteps := 1000000) [hF])
         refine (move_ok (norm h) hkn d.who d.a d.b).go [(0, [])] (by simp (maxSteps := 1000000) [hF, t_move hok, nrm, dH]) ?_;rintro av X κ ⟨rfl, rfl, rfl⟩;simp (maxSteps := 1000000) [hF, t_move hok, nrm, dH]
         refine VS.widen [(0, [.d])] (by simp [covers, mpre]) ?_
         (try refine nr ?_);(repeat first|refine nb_ ?_|refine nl_ ?_);refine endK.o [4, 5] [0] [(0, [.d])] ?_;simp [hF, retK, covers, mpre, dH, hc]
        ·repeat first|refine n1 ?_|((first|refine rg 18 [0, 3, 7] [0, 3, 7, 94] [] ?_|refine nc ?_);simp (maxSteps := 1000000) [hF])
         refine ⟨fun h8 => ?_, fun h8 => ?_⟩
         ·have hc : pdoE h d = takeOf h d.who := by rw [pdoE, if_neg (by omega)]; simp [doE, ldOf, h8]
          repeat first|refine n1 ?_|(refine rg 19 [0, 3] [4, 5] [] ?_;simp (maxSteps := 1000000) [hF])
          refine (take_ok (norm h) hkn d.who).go [(0, [])] (by simp (maxSteps := 1000000) [hF, t_take, nrm, dH]) ?_;rintro av X κ ⟨rfl, rfl, rfl⟩;simp (maxSteps := 1000000) [hF, t_take, nrm, dH]
          refine VS.widen [(0, [.d])] (by simp [covers, mpre]) ?_
          (try refine nr ?_);(repeat first|refine nb_ ?_|refine nl_ ?_);refine endK.o [4, 5] [0] [(0, [.d])] ?_;simp [hF, retK, covers, mpre, dH, hc]
         ·repeat first|refine n1 ?_|((first|refine rg 20 [0, 3, 7] [0, 3, 102] [] ?_|refine nc ?_);simp (maxSteps := 1000000) [hF])
          refine ⟨fun h9 => ?_, fun h9 => ?_⟩
          ·have hc : pdoE h d = ((overOf h d.who).1, 0, (overOf h d.who).2) := by rw [pdoE, if_neg (by omega)]; simp [doE, ldOf, h9]
           repeat first|refine n1 ?_|(refine rg 21 [0, 3] [4, 5] [] ?_;simp (maxSteps := 1000000) [hF])
           refine (over_ok (norm h) hkn d.who).go [(0, [])] (by simp (maxSteps := 1000000) [hF, t_over, nrm, dH]) ?_;rintro av X κ ⟨rfl, rfl, rfl⟩;simp (maxSteps := 1000000) [hF, t_over, nrm, dH]
           refine VS.widen [(0, [.d])] (by simp [covers, mpre]) ?_
           (try refine nr ?_);(repeat first|refine nb_ ?_|refine nl_ ?_);refine endK.o [4, 5] [0] [(0, [.d])] ?_;simp [hF, retK, covers, mpre, dH, hc]
          ·repeat first|refine n1 ?_|refine n2 ?_|refine n4 ?_|(refine rg 22 [] [4, 5] [] ?_;simp (maxSteps := 1000000) [hF])
           have hc : pdoE h d = (h, -1, 0) := by rw [pdoE, if_pos (by omega)]
           refine VS.widen [(0, [.d])] (by simp [covers, mpre]) ?_
           (try refine nr ?_);(repeat first|refine nb_ ?_|refine nl_ ?_);refine endK.o [4, 5] [0] [(0, [.d])] ?_;simp [hF, retK, covers, mpre, dH, hc]
def houseE (h : Hs) (L : List Id5) : Hs := L.foldl (fun h d => (pdoE h d).1) h
def toldsE : Hs → List Id5 → List Int
 | _, [] => []
 | h, d :: l => toldE (pdoE h d).2 :: toldsE (pdoE h d).1 l
theorem toldsE_len : ∀ (h : Hs) (L : List Id5), (toldsE h L).length = L.length
 | _, [] => rfl
 | h, d :: l => by rw [toldsE, List.length_cons, toldsE_len, List.length_cons]
theorem toldsE_app (d : Id5) : ∀ (h : Hs) (L : List Id5), toldsE h (L ++ [d]) = toldsE h L ++ [toldE (pdoE (houseE h L) d).2]
 | _, [] => rfl
 | h, e :: l => by rw [List.cons_append, toldsE, toldsE_app d _ l, toldsE, List.cons_append]; rfl
theorem houseE_app (d : Id5) (h : Hs) (L : List Id5) : houseE h (L ++ [d]) = (pdoE (houseE h L) d).1 := by rw [houseE, List.foldl_append]; rfl
theorem toldsE_at {h : Hs} {L : List Id5} {k : Nat} (hk : k < L.length) : (toldsE h L)[k]'(by rw [toldsE_len]; exact hk) = toldE (pdoE (houseE h (L.take k)) L[k]).2 := by
 induction L generalizing h k with
 | nil => simp at hk
 | cons d l ih =>
  cases k with
  | zero => simp [toldsE, houseE]
  | succ k =>
   have := ih (h := (pdoE h d).1) (k := k) (by simpa using hk)
   simp only [toldsE, List.getElem_cons_succ, List.take_succ_cons]
   rw [this]; rfl
theorem play_bad (v : Int) (L : List Id5) (ex : Bool) (hb : (v < 1 ∨ 8 < v) ∨ 300 < L.length) : Meets Try.prog 25 [] (.cons (avInt v) (.cons (.imm 5 (dIds L) ex) .nil)) fun av X κ => av = avTwo (.nils 1) 1 ∧ X = [] ∧ κ = [] := by
 by_cases hv : v < 1 ∨ 8 < v
 ·refine fb Try.func25 Try.ntmps25 [.tmp 4, .tmp 5] fun w0 I0 F0 hF => ?_
  repeat first|refine n1 ?_|((first|refine rg 0 [0, 1] [0, 1] [] ?_|refine rg 1 [0, 1] [1, 6, 7] [] ?_);simp (maxSteps := 1000000) [hF])
  refine (new_bad v hv).go [] (by simp (maxSteps := 1000000) [hF]) ?_;rintro av X κ ⟨rfl, rfl, rfl⟩;simp (maxSteps := 1000000) [hF]
  repeat first|refine n1 ?_|((first|refine rg 2 [1, 6, 7] [1, 6, 24] [(2, 20)] ?_|refine rg 3 [] [4, 5] [] ?_|refine nc ?_);simp (maxSteps := 1000000) [hF])
  (try refine nr ?_);(repeat first|refine nb_ ?_|refine nl_ ?_);refine endK.o [4, 5] [] [] ?_;simp [hF, retK, covers, mpre]
 ·obtain ⟨n, rfl⟩ : ∃ n : Nat, v = n := ⟨v.toNat, by omega⟩
  have hL : 300 < L.length := by omega
  have hLi : ¬ (L.length : Int) ≤ 300 := by omega
  have hLi2 : (300 : Int) < L.length := by omega
  refine fb Try.func25 Try.ntmps25 [.tmp 4, .tmp 5] fun w0 I0 F0 hF => ?_
  repeat first|refine n1 ?_|((first|refine rg 0 [0, 1] [0, 1] [] ?_|refine rg 1 [0, 1] [1, 6, 7] [] ?_);simp (maxSteps := 1000000) [hF])
  refine (new_ok n (by omega) (by omega)).go [] (by simp (maxSteps := 1000000) [hF]) ?_;rintro av X κ ⟨rfl, rfl, rfl⟩;simp (maxSteps := 1000000) [hF]
  repeat first|refine n1 ?_|((first|refine rg 2 [1, 6, 7] [1, 6, 24] [(2, 20)] ?_|refine rg 3 [] [4, 5] [] ?_|refine nc ?_);simp (maxSteps := 1000000) [hF, hL, hLi, hLi2])
  (try refine nr ?_);(repeat first|refine nb_ ?_|refine nl_ ?_);refine endK.o [4, 5] [] [] ?_;simp [hF, retK, covers, mpre]
theorem play_ok (n : Nat) (h1 : 1 ≤ n) (h2 : n ≤ 8) (L : List Id5) (ex : Bool) (hL : L.length ≤ 300) : Meets Try.prog 25 [] (.cons (avInt n) (.cons (.imm 5 (dIds L) ex) .nil))
  fun av X κ => av = avTwo (.sub 0 [] 0 L.length false) 0 ∧ X = [.sl true () 1 (dInts (toldsE (bornE n) L))] ∧ κ = [] := by
 have hLi : (L.length : Int) ≤ 300 := by omega
 have hLi2 : ¬ (300 : Int) < L.length := by omega
 have hL2 : ¬ 300 < L.length := by omega
 have hnb : dH (newH n) = dH (norm (bornE n)) := rfl
 have hb := f_born (n := n) h2
 refine fb Try.func25 Try.ntmps25 [.tmp 4, .tmp 5] fun w0 I0 F0 hF => ?_
 repeat first|refine n1 ?_|((first|refine rg 0 [0, 1] [0, 1] [] ?_|refine rg 1 [0, 1] [1, 6, 7] [] ?_);simp (maxSteps := 1000000) [hF])
 refine (new_ok n h1 h2).go [] (by simp (maxSteps := 1000000) [hF]) ?_;rintro av X κ ⟨rfl, rfl, rfl⟩;simp (maxSteps := 1000000) [hF]
 repeat first|refine n1 ?_|refine n2 ?_|refine n3 ?_|((first|refine rg 2 [1, 6, 7] [1, 6, 24] [(2, 20)] ?_|refine rg 4 [1, 6] [1, 6, 8] [] ?_|refine rg 5 [1, 6, 8] [6, 8, 25, 26, 27] [] ?_|refine nc ?_);simp (maxSteps := 1000000) [hF, hLi, hLi2, hL2])
 refine VS.hold0 8 1 (by simp) ?_
 generalize hK : VS _ _ _ = KK; simp; (try subst hK)
 refine VS.pick [6, 8, 25, 26, 27] [0, 1] (by simp [hF]) ?_;simp [hF]
 refine VS.rounds (fun m st => ∃ (i : Nat) (h : Hs) (P : List Int), i + m = L.length ∧ h = houseE (bornE n) (L.take i) ∧ Fine n h ∧ P = toldsE (bornE n) (L.take i) ∧ st = ⟨[(6, .ptr 0 [.d]), (8, .sub 1 [] 0 P.length false), (25, .imm 5 (dIds L) ex), (26, avInt L.length), (27, avInt i)],
  [dH (norm h), .sl true () 1 (dInts P)], [], []⟩) ⟨L.length, 0, bornE n, [], by omega, by simp [houseE], hb, by simp [toldsE], by simp [hnb, dInts, sq]⟩ ?_
 rintro m st ⟨i, h, P, hi, hh, hf, hP, rfl⟩
 have hPl : P.length = i := by rw [hP, toldsE_len, List.length_take]; omega
 repeat first|refine n1 ?_|((first|refine rg 6 [6, 8, 25, 26, 27] [6, 8, 25, 26, 27, 28] [] ?_|refine nc ?_);simp (maxSteps := 1000000) [hF])
 refine ⟨fun hlt => ?_, fun hge => ?_⟩
 ·have hlt' : i < L.length := by omega
  have hn1 := dIds_nth hlt'
  have htk : L.take (i + 1) = L.take i ++ [L[i]] := by rw [List.take_add_one, List.getElem?_eq_getElem hlt']; rfl
  have hh' : (pdoE h L[i]).1 = houseE (bornE n) (L.take (i + 1)) := by rw [htk, houseE_app, ← hh]
  have hP' : P ++ [toldE (pdoE h L[i]).2] = toldsE (bornE n) (L.take (i + 1)) := by rw [htk, toldsE_app, ← hP, ← hh]
  have hw : IntKind.i64.wrap ((i : Int) + 1) = (i + 1 : Nat) := by rw [IntWalk.i64_in _ (by omega)]; rfl
  have hp := dInts_app1 P
  have hm1 : ∀ z : Int, (dInts (P ++ [z])).mid 0 (P.length + 1) = dInts (P ++ [z]) := fun z => sq_mid_all _ _ (by simp)
  have hm0 : (dInts P).mid 0 P.length = dInts P := by simp
  have c1 : (P.length + 1) * 8 ≤ 140737488355328 := by omega
  have c2 : P.length ≤ 9223372036854775806 := by omega
  repeat first|refine n1 ?_|refine n2 ?_|refine n3 ?_|((first|refine rg 7 [6, 8, 25, 26, 27] [6, 8, 10, 25, 26, 27] [] ?_|refine rg 8 [6, 8, 10, 25, 26, 27] [6, 8, 11, 12, 25, 26, 27] [] ?_);simp (maxSteps := 1000000) [hF, hn1, hlt'])
  refine (do_ok hf L[i]).go [(0, [])] (by simp (maxSteps := 1000000) [hF, avId, dH]) ?_;rintro av X κ ⟨rfl, rfl, rfl⟩;simp (maxSteps := 1000000) [hF, avId, dH]
  by_cases hz : (pdoE h L[i]).2.2 = 0
  ·have hz' : ((pdoE h L[i]).2.2 = 0) = True := by simp [hz]
   have ht : toldE (pdoE h L[i]).2 = (pdoE h L[i]).2.1 := by rw [toldE, if_neg (by simp [hz])]
   rw [ht] at hP'
   repeat first|refine n1 ?_|refine n2 ?_|refine n4 ?_|refine n5 ?_|refine n6 ?_|((first|refine rg 9 [6, 8, 11, 12, 25, 26, 27] [6, 8, 11, 12, 25, 26, 27, 38] [] ?_|refine rg 11 [6, 8, 11, 25, 26, 27] [6, 8, 25, 26, 27] [] ?_|refine rg 12 [6, 8, 25, 26, 27] [6, 8, 25, 26, 27] [] ?_|refine nc ?_);simp (maxSteps := 1000000) [hF, hz', hp, hm1, hm0, c1, c2, hw])
   refine nextK.of [6, 8, 25, 26, 27] [0, 1] (m - 1) (by omega) (by simp [hF]) ?_
   exact ⟨i + 1, _, _, by omega, hh', f_pdo hf _, hP', by simp [dH, norm]⟩
  ·have hz' : ((pdoE h L[i]).2.2 = 0) = False := by simp [hz]
   have ht : toldE (pdoE h L[i]).2 = IntKind.i64.wrap (-(pdoE h L[i]).2.2) := by rw [toldE, if_pos hz]
   rw [ht] at hP'
   repeat first|refine n1 ?_|refine n4 ?_|refine n5 ?_|refine n6 ?_|((first|refine rg 9 [6, 8, 11, 12, 25, 26, 27] [6, 8, 11, 12, 25, 26, 27, 38] [] ?_|refine rg 10 [6, 8, 12, 25, 26, 27] [6, 8, 11, 25, 26, 27] [] ?_|refine rg 11 [6, 8, 11, 25, 26, 27] [6, 8, 25, 26, 27] [] ?_|refine rg 12 [6, 8, 25, 26, 27] [6, 8, 25, 26, 27] [] ?_|refine nc ?_);simp (maxSteps := 1000000) [hF, hz', hp, hm1, hm0, c1, c2, hw])
   refine nextK.of [6, 8, 25, 26, 27] [0, 1] (m - 1) (by omega) (by simp [hF]) ?_
   exact ⟨i + 1, _, _, by omega, hh', f_pdo hf _, hP', by simp [dH, norm]⟩
 ·have hil : i = L.length := by omega
  rw [hil, List.take_length] at hP
  repeat first|refine n1 ?_|refine n7 ?_|(refine rg 13 [8] [4, 5] [] ?_;simp (maxSteps := 1000000) [hF])
  (try refine nr ?_);(repeat first|refine nb_ ?_|refine nl_ ?_);refine endK.o [4, 5] [1] [] ?_;simp [hF, retK, covers, mpre, hP, toldsE_len]
theorem Does_ok {n : Nat} {h : Hs} (f : Fine n h) (fl : Nat → Bool) (d : Id5) : Meets Try.prog 26 [eH h fl] (.cons (.ptr 0 [.d]) (.cons (avId d) .nil))
  fun av X κ => ∃ fl', av = avInt (toldE (pdoE h d).2) ∧ X = [eH (pdoE h d).1 fl'] ∧ κ = [(0, [.d])] := by
 have hok := f.good.ok
 have hkn := norm_hok.2 hok
 have htl := hok.things
 have htn : (norm h).things.length ≤ 400 := by simpa [norm] using htl
 unfold avId
 refine fb Try.func26 Try.ntmps26 [.tmp 4] fun w0 I0 F0 hF => ?_
 repeat first|refine n1 ?_|refine n3 ?_|((first|refine rg 0 [0, 1] [0, 3] [] ?_|refine rg 1 [0, 3] [0, 3, 5] [] ?_|refine rg 2 [0, 3, 5] [0, 3, 5] [] ?_|refine rg 3 [0, 3, 5] [0, 3, 5, 11] [] ?_|refine rg 5 [0, 3, 5, 11] [0, 3, 5, 11, 12] [] ?_|refine nc ?_);simp (maxSteps := 1000000) [hF])
 refine ⟨fun h0 => ?_, fun h0 => ?_⟩
 ·have hc : pdoE h d = leafOf h d.who d.a := by rw [pdoE, if_neg (by omega)]; simp [doE, ldOf, h0]
  repeat first|(refine rg 6 [0, 3] [5, 6] [] ?_;simp (maxSteps := 1000000) [hF])
  refine (eleaf_ok h fl htl d.who d.a).go [(0, [])] (by simp (maxSteps := 1000000) [hF, eH]) ?_;rintro av X κ ⟨rfl, rfl, rfl⟩;simp (maxSteps := 1000000) [hF, eH]
  by_cases hz : (leafOf h d.who d.a).2.2 = 0
  ·repeat first|refine n1 ?_|refine n2 ?_|refine n4 ?_|((first|refine rg 32 [5, 6] [5, 6, 129] [] ?_|refine rg 34 [5] [4] [] ?_|refine nc ?_);simp (maxSteps := 1000000) [hF, hz])
   refine VS.widen [(0, [.d])] (by simp [covers, mpre]) ?_
   (try refine nr ?_);(repeat first|refine nb_ ?_|refine nl_ ?_);refine endK.o [4] [0] [(0, [.d])] ?_;simp [hF, retK, covers, mpre, eH, hc, toldE, hz]
   exact ⟨_, rfl⟩
  ·repeat first|refine n1 ?_|refine n4 ?_|((first|refine rg 32 [5, 6] [5, 6, 129] [] ?_|refine rg 33 [6] [4] [] ?_|refine nc ?_);simp (maxSteps := 1000000) [hF, hz])
   refine VS.widen [(0, [.d])] (by simp [covers, mpre]) ?_
   (try refine nr ?_);(repeat first|refine nb_ ?_|refine nl_ ?_);refine endK.o [4] [0] [(0, [.d])] ?_;simp [hF, retK, covers, mpre, eH, hc, toldE, hz]
   exact ⟨_, rfl⟩
 ·repeat first|refine n1 ?_|((first|refine rg 7 [0, 3, 5, 11] [0, 3, 5, 11, 23] [] ?_|refine nc ?_);simp (maxSteps := 1000000) [hF])
  refine ⟨fun h1 => ?_, fun h1 => ?_⟩
  ·have hc : pdoE h d = listOf h d.who ([d.a, d.b, d.c].filter keepN) := by rw [pdoE, if_neg (by omega)]; simp [doE, ldOf, h1]
   repeat first|refine n1 ?_|refine n3 ?_|((first|refine rg 8 [0, 3] [0, 3, 7] [] ?_|refine rg 9 [0, 3, 7] [0, 3, 7, 31, 32, 33] [] ?_);simp (maxSteps := 1000000) [hF])
   refine VS.hold0 7 1 (by simp) ?_
   generalize hK : VS _ _ _ = KK; simp; (try subst hK)
   refine VS.pick [0, 3, 7, 31, 32, 33] [0, 1, 2, 3] (by simp [hF]) ?_;simp [hF]
   have hbd : T.box true () (.agg (.cons (.val (.int .i64 d.d)) (.cons (.val (.int .i64 d.who)) (.cons (.val (.int .i64 d.a)) (.cons (.val (.int .i64 d.b)) (.cons (.val (.int .i64 d.c)) .nil)))))) = .box true () (dId d) := rfl
   have hl3 : T.sl true () 1 (.cons (.val (.int .i64 d.a)) (.cons (.val (.int .i64 d.b)) (.cons (.val (.int .i64 d.c)) .nil))) = .sl true () 1 (dInts [d.a, d.b, d.c]) := rfl
   have hl0 : (T.sl true () 1 .nil : D) = .sl true () 1 (dInts []) := rfl
   refine VS.rounds (fun m st => ∃ (i : Nat) (P : List Int), i + m = 3 ∧ P = ([d.a, d.b, d.c].take i).filter keepN ∧ st = ⟨[(0, .ptr 0 [.d]), (3, .ptr 1 [.d]), (7, .sub 3 [] 0 P.length false), (31, .sub 2 [] 0 3 true), (32, avInt 3), (33, avInt i)],
    [eH h fl, .box true () (dId d), .sl true () 1 (dInts [d.a, d.b, d.c]), .sl true () 1 (dInts P)], [], []⟩) ⟨3, 0, [], by omega, by simp, by rw [← hbd, ← hl3, ← hl0]; simp⟩ ?_
   rintro m st ⟨i, P, hi, hP, rfl⟩
   have hw : IntKind.i64.wrap ((i : Int) + 1) = (i + 1 : Nat) := by rw [IntWalk.i64_in _ (by omega)]; rfl
   repeat first|refine n1 ?_|((first|refine rg 10 [0, 3, 7, 31, 32, 33] [0, 3, 7, 31, 32, 33, 34] [] ?_|refine nc ?_);simp (maxSteps := 1000000) [hF])
   refine ⟨fun hlt => ?_, fun hge => ?_⟩
   ·have hi3 : i < 3 := by omega
    have hi3' : i < [d.a, d.b, d.c].length := hi3
    have hn := dInts_nth hi3'
    obtain ⟨x, hx⟩ : ∃ x, x = [d.a, d.b, d.c][i] := ⟨_, rfl⟩
    rw [← hx] at hn
    have hPl : P.length ≤ 3 := by rw [hP]; exact Nat.le_trans (List.length_filter_le _ _) (by rw [List.length_take]; exact Nat.min_le_right _ _)
    have htk : ([d.a, d.b, d.c].take (i + 1)).filter keepN = if x < 0 then P else P ++ [x] := by
     rw [List.take_add_one, List.getElem?_eq_getElem hi3', List.filter_append, ← hP, ← hx]
     by_cases hx0 : x < 0 <;> simp [keepN, hx0]
    have hp := dInts_app1 P x
    have hm1 : (dInts (P ++ [x])).mid 0 (P.length + 1) = dInts (P ++ [x]) := sq_mid_all _ _ (by simp)
    have hm0 : (dInts P).mid 0 P.length = dInts P := by simp
    have c1 : (P.length + 1) * 8 ≤ 140737488355328 := by omega
    have c2 : P.length ≤ 9223372036854775806 := by omega
    have hi3i : (i : Int) < 3 := by omega
    repeat first|refine n1 ?_|refine n2 ?_|refine n3 ?_|((first|refine rg 11 [0, 3, 7, 31, 32, 33] [0, 3, 7, 9, 31, 32, 33] [] ?_|refine rg 12 [0, 3, 7, 9, 31, 32, 33] [0, 3, 7, 9, 31, 32, 33, 38] [] ?_|refine nc ?_);simp (maxSteps := 1000000) [hF, hn, hi3, hi3i])
    refine ⟨fun hx0 => ?_, fun hx0 => ?_⟩
    ·repeat first|refine n4 ?_|refine n5 ?_|refine n6 ?_|((first|refine rg 13 [0, 3, 7, 9, 31, 32, 33] [0, 3, 7, 31, 32, 33] [] ?_|refine rg 14 [0, 3, 7, 31, 32, 33] [0, 3, 7, 31, 32, 33] [] ?_);simp (maxSteps := 1000000) [hF, hp, hm1, hm0, c1, c2, hw])
     refine nextK.of [0, 3, 7, 31, 32, 33] [0, 1, 2, 3] (m - 1) (by omega) (by simp [hF]) ?_
     refine ⟨i + 1, P ++ [x], by omega, by rw [htk, if_neg (by omega)], ?_⟩
     simp
    ·repeat first|refine n2 ?_|refine n4 ?_|refine n5 ?_|refine n6 ?_|(refine rg 14 [0, 3, 7, 31, 32, 33] [0, 3, 7, 31, 32, 33] [] ?_;simp (maxSteps := 1000000) [hF, hw])
     refine nextK.of [0, 3, 7, 31, 32, 33] [0, 1, 2, 3] (m - 1) (by omega) (by simp [hF]) ?_
     refine ⟨i + 1, P, by omega, by rw [htk, if_pos (by omega)], ?_⟩
     simp
   ·have hPf : P = [d.a, d.b, d.c].filter keepN := by rw [hP, List.take_of_length_le (by simp; omega)]
    have hPl : P.length ≤ 100000000 := by rw [hPf]; exact Nat.le_trans (List.length_filter_le _ _) (by simp)
    rw [← hPf] at hc
    have hm0 : (dInts P).mid 0 P.length = dInts P := by simp
    refine VS.cool 7 (by simp (maxSteps := 1000000) [hF, hm0]) ?_;simp [hF, St.cool, hm0]
    repeat first|refine n7 ?_|refine n8 ?_|refine n0 ?_|(refine rg 15 [0, 3, 7] [5, 6] [] ?_;simp (maxSteps := 1000000) [hF, hm0, dId])
    refine (elist_ok h fl htl d.who P false hPl).go [(0, [])] (by simp (maxSteps := 1000000) [hF, eH, hm0]) ?_;rintro av X κ ⟨rfl, rfl, rfl⟩;simp (maxSteps := 1000000) [hF, eH, hm0]
    by_cases hz : (listOf h d.who P).2.2 = 0
    ·repeat first|refine n1 ?_|refine n2 ?_|refine n4 ?_|((first|refine rg 32 [5, 6] [5, 6, 129] [] ?_|refine rg 34 [5] [4] [] ?_|refine nc ?_);simp (maxSteps := 1000000) [hF, hz])
     refine VS.widen [(0, [.d])] (by simp [covers, mpre]) ?_
     (try refine nr ?_);(repeat first|refine nb_ ?_|refine nl_ ?_);refine endK.o [4] [0] [(0, [.d])] ?_;simp [hF, retK, covers, mpre, eH, hc, toldE, hz]
     exact ⟨_, rfl⟩
    ·repeat first|refine n1 ?_|refine n4 ?_|((first|refine rg 32 [5, 6] [5, 6, 129] [] ?_|refine rg 33 [6] [4] [] ?_|refine nc ?_);simp (maxSteps := 1000000) [hF, hz])
     refine VS.widen [(0, [.d])] (by simp [covers, mpre]) ?_
     (try refine nr ?_);(repeat first|refine nb_ ?_|refine nl_ ?_);refine endK.o [4] [0] [(0, [.d])] ?_;simp [hF, retK, covers, mpre, eH, hc, toldE, hz]
     exact ⟨_, rfl⟩
  ·repeat first|refine n1 ?_|((first|refine rg 16 [0, 3, 5, 11] [0, 3, 5, 11, 52] [] ?_|refine nc ?_);simp (maxSteps := 1000000) [hF])
   refine ⟨fun h2 => ?_, fun h2 => ?_⟩
   ·have hc : pdoE h d = ((setE h d.who d.a d.b d.c).1, 0, (setE h d.who d.a d.b d.c).2) := by rw [pdoE, if_neg (by omega)]; simp [doE, ldOf, h2]
    repeat first|(refine rg 17 [0, 3, 5] [5, 6] [] ?_;simp (maxSteps := 1000000) [hF])
    refine (eset_ok h fl hok d.who d.a d.b d.c).go [(0, [])] (by simp (maxSteps := 1000000) [hF, eH]) ?_;rintro av X κ ⟨rfl, rfl, rfl⟩;simp (maxSteps := 1000000) [hF, eH]
    by_cases hz : (setE h d.who d.a d.b d.c).2 = 0
    ·repeat first|refine n1 ?_|refine n2 ?_|refine n4 ?_|((first|refine rg 32 [5, 6] [5, 6, 129] [] ?_|refine rg 34 [5] [4] [] ?_|refine nc ?_);simp (maxSteps := 1000000) [hF, hz])
     refine VS.widen [(0, [.d])] (by simp [covers, mpre]) ?_
     (try refine nr ?_);(repeat first|refine nb_ ?_|refine nl_ ?_);refine endK.o [4] [0] [(0, [.d])] ?_;simp [hF, retK, covers, mpre, eH, hc, toldE, hz]
     exact ⟨_, rfl⟩
    ·repeat first|refine n1 ?_|refine n4 ?_|((first|refine rg 32 [5, 6] [5, 6, 129] [] ?_|refine rg 33 [6] [4] [] ?_|refine nc ?_);simp (maxSteps := 1000000) [hF, hz])
     refine VS.widen [(0, [.d])] (by simp [covers, mpre]) ?_
     (try refine nr ?_);(repeat first|refine nb_ ?_|refine nl_ ?_);refine endK.o [4] [0] [(0, [.d])] ?_;simp [hF, retK, covers, mpre, eH, hc, toldE, hz]
     exact ⟨_, rfl⟩
   ·repeat first|refine n1 ?_|((first|refine rg 18 [0, 3, 5, 11] [0, 3, 5, 11, 64] [] ?_|refine nc ?_);simp (maxSteps := 1000000) [hF])
    refine ⟨fun h3 => ?_, fun h3 => ?_⟩
    ·have hc : pdoE h d = ((pushE h d.who d.a d.b).1, 0, (pushE h d.who d.a d.b).2) := by rw [pdoE, if_neg (by omega)]; simp [doE, ldOf, h3]
     repeat first|(refine rg 19 [0, 3, 5] [5, 6] [] ?_;simp (maxSteps := 1000000) [hF])
     refine (epush_ok h fl hok d.who d.a d.b).go [(0, [])] (by simp (maxSteps := 1000000) [hF, eH]) ?_;rintro av X κ ⟨rfl, rfl, rfl⟩;simp (maxSteps := 1000000) [hF, eH]
     by_cases hz : (pushE h d.who d.a d.b).2 = 0
     ·repeat first|refine n1 ?_|refine n2 ?_|refine n4 ?_|((first|refine rg 32 [5, 6] [5, 6, 129] [] ?_|refine rg 34 [5] [4] [] ?_|refine nc ?_);simp (maxSteps := 1000000) [hF, hz])
      refine VS.widen [(0, [.d])] (by simp [covers, mpre]) ?_
      (try refine nr ?_);(repeat first|refine nb_ ?_|refine nl_ ?_);refine endK.o [4] [0] [(0, [.d])] ?_;simp [hF, retK, covers, mpre, eH, hc, toldE, hz]
      exact ⟨_, rfl⟩
     ·repeat first|refine n1 ?_|refine n4 ?_|((first|refine rg 32 [5, 6] [5, 6, 129] [] ?_|refine rg 33 [6] [4] [] ?_|refine nc ?_);simp (maxSteps := 1000000) [hF, hz])
      refine VS.widen [(0, [.d])] (by simp [covers, mpre]) ?_
      (try refine nr ?_);(repeat first|refine nb_ ?_|refine nl_ ?_);refine endK.o [4] [0] [(0, [.d])] ?_;simp [hF, retK, covers, mpre, eH, hc, toldE, hz]
      exact ⟨_, rfl⟩
    ·repeat first|refine n1 ?_|((first|refine rg 20 [0, 3, 5, 11] [0, 3, 5, 11, 74] [] ?_|refine nc ?_);simp (maxSteps := 1000000) [hF])
     refine ⟨fun h4 => ?_, fun h4 => ?_⟩
     ·have hc : pdoE h d = ((freezeE h d.who d.a).1, 0, (freezeE h d.who d.a).2) := by rw [pdoE, if_neg (by omega)]; simp [doE, ldOf, h4]
      repeat first|(refine rg 21 [0, 3, 5] [5, 6] [] ?_;simp (maxSteps := 1000000) [hF])
      refine (efreeze_ok h fl hok d.who d.a).go [(0, [])] (by simp (maxSteps := 1000000) [hF, eH]) ?_;rintro av X κ ⟨rfl, rfl, rfl⟩;simp (maxSteps := 1000000) [hF, eH]
      by_cases hz : (freezeE h d.who d.a).2 = 0
      ·repeat first|refine n1 ?_|refine n2 ?_|refine n4 ?_|((first|refine rg 32 [5, 6] [5, 6, 129] [] ?_|refine rg 34 [5] [4] [] ?_|refine nc ?_);simp (maxSteps := 1000000) [hF, hz])
       refine VS.widen [(0, [.d])] (by simp [covers, mpre]) ?_
       (try refine nr ?_);(repeat first|refine nb_ ?_|refine nl_ ?_);refine endK.o [4] [0] [(0, [.d])] ?_;simp [hF, retK, covers, mpre, eH, hc, toldE, hz]
       exact ⟨_, rfl⟩
      ·repeat first|refine n1 ?_|refine n4 ?_|((first|refine rg 32 [5, 6] [5, 6, 129] [] ?_|refine rg 33 [6] [4] [] ?_|refine nc ?_);simp (maxSteps := 1000000) [hF, hz])
       refine VS.widen [(0, [.d])] (by simp [covers, mpre]) ?_
       (try refine nr ?_);(repeat first|refine nb_ ?_|refine nl_ ?_);refine endK.o [4] [0] [(0, [.d])] ?_;simp [hF, retK, covers, mpre, eH, hc, toldE, hz]
       exact ⟨_, rfl⟩
     ·repeat first|refine n1 ?_|((first|refine rg 22 [0, 3, 5, 11] [0, 3, 5, 11, 82] [] ?_|refine nc ?_);simp (maxSteps := 1000000) [hF])
      refine ⟨fun h5 => ?_, fun h5 => ?_⟩
      ·have hc : pdoE h d = ((shareE h d.who d.a).1, 0, (shareE h d.who d.a).2) := by rw [pdoE, if_neg (by omega)]; simp [doE, ldOf, h5]
       repeat first|(refine rg 23 [0, 3, 5] [5, 6] [] ?_;simp (maxSteps := 1000000) [hF])
       refine (eshare_ok h fl hok d.who d.a).go [(0, [])] (by simp (maxSteps := 1000000) [hF, eH]) ?_;rintro av X κ ⟨rfl, rfl, rfl⟩;simp (maxSteps := 1000000) [hF, eH]
       by_cases hz : (shareE h d.who d.a).2 = 0
       ·repeat first|refine n1 ?_|refine n2 ?_|refine n4 ?_|((first|refine rg 32 [5, 6] [5, 6, 129] [] ?_|refine rg 34 [5] [4] [] ?_|refine nc ?_);simp (maxSteps := 1000000) [hF, hz])
        refine VS.widen [(0, [.d])] (by simp [covers, mpre]) ?_
        (try refine nr ?_);(repeat first|refine nb_ ?_|refine nl_ ?_);refine endK.o [4] [0] [(0, [.d])] ?_;simp [hF, retK, covers, mpre, eH, hc, toldE, hz]
        exact ⟨_, rfl⟩
       ·repeat first|refine n1 ?_|refine n4 ?_|((first|refine rg 32 [5, 6] [5, 6, 129] [] ?_|refine rg 33 [6] [4] [] ?_|refine nc ?_);simp (maxSteps := 1000000) [hF, hz])
        refine VS.widen [(0, [.d])] (by simp [covers, mpre]) ?_
        (try refine nr ?_);(repeat first|refine nb_ ?_|refine nl_ ?_);refine endK.o [4] [0] [(0, [.d])] ?_;simp [hF, retK, covers, mpre, eH, hc, toldE, hz]
        exact ⟨_, rfl⟩
      ·repeat first|refine n1 ?_|((first|refine rg 24 [0, 3, 5, 11] [0, 3, 5, 11, 90] [] ?_|refine nc ?_);simp (maxSteps := 1000000) [hF])
       refine ⟨fun h6 => ?_, fun h6 => ?_⟩
       ·have hc : pdoE h d = sendE h d.who d.a d.b := by rw [pdoE, if_neg (by omega)]; simp [doE, ldOf, h6]
        repeat first|(refine rg 25 [0, 3] [5, 6] [] ?_;simp (maxSteps := 1000000) [hF])
        refine (esend_ok h fl hok d.who d.a d.b).go [(0, [])] (by simp (maxSteps := 1000000) [hF, eH]) ?_;rintro av X κ ⟨fl2, rfl, rfl, rfl⟩;simp (maxSteps := 1000000) [hF, eH]
        by_cases hz : (sendE h d.who d.a d.b).2.2 = 0
        ·repeat first|refine n1 ?_|refine n2 ?_|refine n4 ?_|((first|refine rg 32 [5, 6] [5, 6, 129] [] ?_|refine rg 34 [5] [4] [] ?_|refine nc ?_);simp (maxSteps := 1000000) [hF, hz])
         refine VS.widen [(0, [.d])] (by simp [covers, mpre]) ?_
         (try refine nr ?_);(repeat first|refine nb_ ?_|refine nl_ ?_);refine endK.o [4] [0] [(0, [.d])] ?_;simp [hF, retK, covers, mpre, eH, hc, toldE, hz]
         exact ⟨_, rfl⟩
        ·repeat first|refine n1 ?_|refine n4 ?_|((first|refine rg 32 [5, 6] [5, 6, 129] [] ?_|refine rg 33 [6] [4] [] ?_|refine nc ?_);simp (maxSteps := 1000000) [hF, hz])
         refine VS.widen [(0, [.d])] (by simp [covers, mpre]) ?_
         (try refine nr ?_);(repeat first|refine nb_ ?_|refine nl_ ?_);refine endK.o [4] [0] [(0, [.d])] ?_;simp [hF, retK, covers, mpre, eH, hc, toldE, hz]
         exact ⟨_, rfl⟩
       ·repeat first|refine n1 ?_|((first|refine rg 26 [0, 3, 5, 11] [0, 3, 5, 11, 103] [] ?_|refine nc ?_);simp (maxSteps := 1000000) [hF])
        refine ⟨fun h7 => ?_, fun h7 => ?_⟩
        ·have hc : pdoE h d = ((moveE h d.who d.a d.b).1, 0, (moveE h d.who d.a d.b).2) := by rw [pdoE, if_neg (by omega)]; simp [doE, ldOf, h7]
         repeat first|(refine rg 27 [0, 3, 5] [5, 6] [] ?_;simp (maxSteps := 1000000) [hF])
         refine (emove_ok h fl hok d.who d.a d.b).go [(0, [])] (by simp (maxSteps := 1000000) [hF, eH]) ?_;rintro av X κ ⟨fl2, rfl, rfl, rfl⟩;simp (maxSteps := 1000000) [hF, eH]
         by_cases hz : (moveE h d.who d.a d.b).2 = 0
         ·repeat first|refine n1 ?_|refine n2 ?_|refine n4 ?_|((first|refine rg 32 [5, 6] [5, 6, 129] [] ?_|refine rg 34 [5] [4] [] ?_|refine nc ?_);simp (maxSteps := 1000000) [hF, hz])
          refine VS.widen [(0, [.d])] (by simp [covers, mpre]) ?_
          (try refine nr ?_);(repeat first|refine nb_ ?_|refine nl_ ?_);refine endK.o [4] [0] [(0, [.d])] ?_;simp [hF, retK, covers, mpre, eH, hc, toldE, hz]
          exact ⟨_, rfl⟩
         ·repeat first|refine n1 ?_|refine n4 ?_|((first|refine rg 32 [5, 6] [5, 6, 129] [] ?_|refine rg 33 [6] [4] [] ?_|refine nc ?_);simp (maxSteps := 1000000) [hF, hz])
          refine VS.widen [(0, [.d])] (by simp [covers, mpre]) ?_
          (try refine nr ?_);(repeat first|refine nb_ ?_|refine nl_ ?_);refine endK.o [4] [0] [(0, [.d])] ?_;simp [hF, retK, covers, mpre, eH, hc, toldE, hz]
          exact ⟨_, rfl⟩
        ·repeat first|refine n1 ?_|((first|refine rg 28 [0, 3, 5, 11] [0, 3, 5, 11, 113] [] ?_|refine nc ?_);simp (maxSteps := 1000000) [hF])
         refine ⟨fun h8 => ?_, fun h8 => ?_⟩
         ·have hc : pdoE h d = takeOf h d.who := by rw [pdoE, if_neg (by omega)]; simp [doE, ldOf, h8]
          repeat first|(refine rg 29 [0, 3] [5, 6] [] ?_;simp (maxSteps := 1000000) [hF])
          refine (etake_ok h fl hok d.who).go [(0, [])] (by simp (maxSteps := 1000000) [hF, eH]) ?_;rintro av X κ ⟨rfl, rfl, rfl⟩;simp (maxSteps := 1000000) [hF, eH]
          by_cases hz : (takeOf h d.who).2.2 = 0
          ·repeat first|refine n1 ?_|refine n2 ?_|refine n4 ?_|((first|refine rg 32 [5, 6] [5, 6, 129] [] ?_|refine rg 34 [5] [4] [] ?_|refine nc ?_);simp (maxSteps := 1000000) [hF, hz])
           refine VS.widen [(0, [.d])] (by simp [covers, mpre]) ?_
           (try refine nr ?_);(repeat first|refine nb_ ?_|refine nl_ ?_);refine endK.o [4] [0] [(0, [.d])] ?_;simp [hF, retK, covers, mpre, eH, hc, toldE, hz]
           exact ⟨_, rfl⟩
          ·repeat first|refine n1 ?_|refine n4 ?_|((first|refine rg 32 [5, 6] [5, 6, 129] [] ?_|refine rg 33 [6] [4] [] ?_|refine nc ?_);simp (maxSteps := 1000000) [hF, hz])
           refine VS.widen [(0, [.d])] (by simp [covers, mpre]) ?_
           (try refine nr ?_);(repeat first|refine nb_ ?_|refine nl_ ?_);refine endK.o [4] [0] [(0, [.d])] ?_;simp [hF, retK, covers, mpre, eH, hc, toldE, hz]
           exact ⟨_, rfl⟩
         ·repeat first|refine n1 ?_|((first|refine rg 30 [0, 3, 5, 11] [0, 3, 5, 122] [] ?_|refine nc ?_);simp (maxSteps := 1000000) [hF])
          refine ⟨fun h9 => ?_, fun h9 => ?_⟩
          ·have hc : pdoE h d = ((overOf h d.who).1, 0, (overOf h d.who).2) := by rw [pdoE, if_neg (by omega)]; simp [doE, ldOf, h9]
           repeat first|(refine rg 31 [0, 3, 5] [5, 6] [] ?_;simp (maxSteps := 1000000) [hF])
           refine (eover_ok h fl hok d.who).go [(0, [])] (by simp (maxSteps := 1000000) [hF, eH]) ?_;rintro av X κ ⟨rfl, rfl, rfl⟩;simp (maxSteps := 1000000) [hF, eH]
           by_cases hz : (overOf h d.who).2 = 0
           ·repeat first|refine n1 ?_|refine n2 ?_|refine n4 ?_|((first|refine rg 32 [5, 6] [5, 6, 129] [] ?_|refine rg 34 [5] [4] [] ?_|refine nc ?_);simp (maxSteps := 1000000) [hF, hz])
            refine VS.widen [(0, [.d])] (by simp [covers, mpre]) ?_
            (try refine nr ?_);(repeat first|refine nb_ ?_|refine nl_ ?_);refine endK.o [4] [0] [(0, [.d])] ?_;simp [hF, retK, covers, mpre, eH, hc, toldE, hz]
            exact ⟨_, rfl⟩
           ·repeat first|refine n1 ?_|refine n4 ?_|((first|refine rg 32 [5, 6] [5, 6, 129] [] ?_|refine rg 33 [6] [4] [] ?_|refine nc ?_);simp (maxSteps := 1000000) [hF, hz])
            refine VS.widen [(0, [.d])] (by simp [covers, mpre]) ?_
            (try refine nr ?_);(repeat first|refine nb_ ?_|refine nl_ ?_);refine endK.o [4] [0] [(0, [.d])] ?_;simp [hF, retK, covers, mpre, eH, hc, toldE, hz]
            exact ⟨_, rfl⟩
          ·repeat first|refine n1 ?_|(refine rg 4 [] [4] [] ?_;simp (maxSteps := 1000000) [hF])
           have hc : pdoE h d = (h, -1, 0) := by rw [pdoE, if_pos (by omega)]
           refine VS.widen [(0, [.d])] (by simp [covers, mpre]) ?_
           (try refine nr ?_);(repeat first|refine nb_ ?_|refine nl_ ?_);refine endK.o [4] [0] [(0, [.d])] ?_;simp [hF, retK, covers, mpre, eH, hc, toldE]
           exact ⟨_, rfl⟩
theorem w8 (nn : Int) : ∃ n : Nat, 1 ≤ n ∧ n ≤ 8 ∧ IntKind.i64.wrap (1 + IntKind.i64.wrap ((IntKind.u64.wrap nn).tmod 8)) = n := by
 have h0 : 0 ≤ IntKind.u64.wrap nn := by simp only [IntKind.wrap, IntKind.bits, IntKind.signed]; simp; omega
 have h1 : 0 ≤ (IntKind.u64.wrap nn).tmod 8 := Int.tmod_nonneg _ h0
 have h2 : (IntKind.u64.wrap nn).tmod 8 < 8 := Int.tmod_lt_of_pos _ (by omega)
 refine ⟨((IntKind.u64.wrap nn).tmod 8).toNat + 1, by omega, by omega, ?_⟩
 rw [IntWalk.i64_in ((IntKind.u64.wrap nn).tmod 8) (by omega), IntWalk.i64_in _ (by omega)]
 omega
theorem tells_ok (nn : Int) (L : List Id5) (ex : Bool) : Meets Try.prog 6 [] (.cons (avInt nn) (.cons (.imm 5 (dIds L) ex) .nil)) fun av X κ => av = .val (.bool true) := by
 obtain ⟨ng, hg1, hg2, hw8⟩ := w8 nn
 have hl2 : ∀ a b : Int, (T.sl true () 1 (.cons (.val (.int .i64 a)) (.cons (.val (.int .i64 b)) .nil)) : D) = .sl true () 1 (dInts [a, b]) := fun _ _ => rfl
 obtain ⟨V, hV⟩ : ∃ V, V = [nn, (ng : Int)] := ⟨_, rfl⟩
 have hVl : V.length = 2 := by rw [hV]; rfl
 have hVs : (T.sl true () 1 (.cons (.val (.int .i64 nn)) (.cons (.val (.int .i64 ng)) .nil)) : D) = .sl true () 1 (dInts V) := by rw [hV]; rfl
 refine fb Try.func6 Try.ntmps6 [.tmp 4] fun w0 I0 F0 hF => ?_
 repeat first|refine n1 ?_|refine n3 ?_|((first|refine rg 0 [0, 1] [0, 1] [] ?_|refine rg 1 [0, 1] [1, 5] [] ?_|refine rg 2 [1, 5] [1, 5, 6] [] ?_);simp (maxSteps := 1000000) [hF, hw8])
 refine VS.rounds (fun m st => ∃ (i : Nat), i + m = 2 ∧ st = ⟨[(1, .imm 5 (dIds L) ex), (5, .sub 0 [] 0 2 true), (6, avInt i)], [.sl true () 1 (dInts V)], [], []⟩) ⟨2, 0, by omega, by rw [← hVs]; simp⟩ ?_
 rintro m st ⟨i, hi, rfl⟩
 have hwi : IntKind.i64.wrap ((i : Int) + 1) = (i + 1 : Nat) := by rw [IntWalk.i64_in _ (by omega)]; rfl
 repeat first|refine n1 ?_|((first|refine rg 3 [1, 5, 6] [1, 5, 6, 23] [] ?_|refine nc ?_);simp (maxSteps := 1000000) [hF])
 refine ⟨fun hlt => ?_, fun hge => ?_⟩
 ·have hi2 : i < 2 := by omega
  have hi2' : i < V.length := by omega
  have hnt := dInts_nth hi2'
  generalize V[i] = v at hnt
  by_cases hv : v < 1 ∨ 8 < v
  ·repeat first|refine n1 ?_|refine n2 ?_|refine n3 ?_|(refine rg 5 [1, 5, 6] [1, 5, 6, 7, 8] [] ?_;simp (maxSteps := 1000000) [hF, hnt, hi2', hVl, hi2, hlt])
   refine (new_bad v hv).go [] (by simp (maxSteps := 1000000) [hF]) ?_;rintro av X κ ⟨rfl, rfl, rfl⟩;simp (maxSteps := 1000000) [hF]
   repeat first|refine n1 ?_|(refine rg 6 [1, 5, 6, 7, 8] [1, 5, 6, 7, 8, 9, 10] [] ?_;simp (maxSteps := 1000000) [hF, hnt, hi2', hVl, hi2, hlt])
   refine (enew_bad v hv).go [] (by simp (maxSteps := 1000000) [hF]) ?_;rintro av X κ ⟨rfl, rfl, rfl⟩;simp (maxSteps := 1000000) [hF]
   repeat first|refine n1 ?_|(refine rg 7 [1, 5, 6, 7, 8, 9, 10] [1, 5, 6, 7, 8, 9, 10, 11, 12] [] ?_;simp (maxSteps := 1000000) [hF, hnt, hi2', hVl, hi2, hlt])
   refine (play_bad v L ex (.inl hv)).go [] (by simp (maxSteps := 1000000) [hF]) ?_;rintro av X κ ⟨rfl, rfl, rfl⟩;simp (maxSteps := 1000000) [hF]
   repeat first|refine n1 ?_|refine n2 ?_|refine n4 ?_|refine n6 ?_|refine n7 ?_|refine n8 ?_|((first|refine rg 4 [1, 5, 6] [1, 5, 6] [] ?_|refine rg 8 [1, 5, 6, 7, 8, 9, 10, 11, 12] [1, 5, 6, 9, 10, 11, 12, 60] [(3, 54)] ?_|refine rg 10 [1, 5, 6, 9, 10, 11, 12] [1, 5, 6, 9, 11, 12, 67] [(2, 63)] ?_|refine rg 11 [1, 5, 6, 11, 12] [1, 5, 6, 74] [(3, 71)] ?_|refine nc ?_);simp (maxSteps := 1000000) [hF, hwi])
   refine nextK.of [1, 5, 6] [0] (m - 1) (by omega) (by simp [hF]) ?_
   exact ⟨i + 1, by omega, by simp⟩
  ·obtain ⟨n, rfl⟩ : ∃ n : Nat, v = n := ⟨v.toNat, by omega⟩
   have h1 : 1 ≤ n := by omega
   have h2 : n ≤ 8 := by omega
   repeat first|refine n1 ?_|refine n2 ?_|refine n3 ?_|(refine rg 5 [1, 5, 6] [1, 5, 6, 7, 8] [] ?_;simp (maxSteps := 1000000) [hF, hnt, hi2', hVl, hi2, hlt])
   refine (new_ok n h1 h2).go [] (by simp (maxSteps := 1000000) [hF]) ?_;rintro av X κ ⟨rfl, rfl, rfl⟩;simp (maxSteps := 1000000) [hF]
   repeat first|refine n1 ?_|(refine rg 6 [1, 5, 6, 7, 8] [1, 5, 6, 7, 8, 9, 10] [] ?_;simp (maxSteps := 1000000) [hF, hnt, hi2', hVl, hi2, hlt])
   refine (enew_ok n h1 h2).go [] (by simp (maxSteps := 1000000) [hF]) ?_;rintro av X κ ⟨rfl, rfl, rfl⟩;simp (maxSteps := 1000000) [hF]
   repeat first|refine n1 ?_|(refine rg 7 [1, 5, 6, 7, 8, 9, 10] [1, 5, 6, 7, 8, 9, 10, 11, 12] [] ?_;simp (maxSteps := 1000000) [hF, hnt, hi2', hVl, hi2, hlt])
   by_cases hL : 300 < L.length
   ·have hLi : ¬ (L.length : Int) ≤ 300 := by omega
    have hLi2 : (300 : Int) < L.length := by omega
    refine (play_bad n L ex (.inr hL)).go [] (by simp (maxSteps := 1000000) [hF]) ?_;rintro av X κ ⟨rfl, rfl, rfl⟩;simp (maxSteps := 1000000) [hF]
    repeat first|refine n1 ?_|refine n2 ?_|refine n4 ?_|refine n6 ?_|refine n7 ?_|refine n8 ?_|((first|refine rg 4 [1, 5, 6] [1, 5, 6] [] ?_|refine rg 8 [1, 5, 6, 7, 8, 9, 10, 11, 12] [1, 5, 6, 9, 10, 11, 12, 60] [(3, 54)] ?_|refine rg 10 [1, 5, 6, 9, 10, 11, 12] [1, 5, 6, 9, 11, 12, 67] [(2, 63)] ?_|refine rg 11 [1, 5, 6, 11, 12] [1, 5, 6, 74] [(3, 71)] ?_|refine nc ?_);simp (maxSteps := 1000000) [hF, hL, hLi, hLi2, hwi])
    refine nextK.of [1, 5, 6] [0] (m - 1) (by omega) (by simp [hF]) ?_
    exact ⟨i + 1, by omega, by simp⟩
   ·have hLi : (L.length : Int) ≤ 300 := by omega
    have hLi2 : ¬ (300 : Int) < L.length := by omega
    have hb := f_born (n := n) h2
    have heb : eH ⟨List.replicate n ⟨[], false⟩, []⟩ (fun _ => true) = eH (bornE n) fun _ => true := rfl
    refine (play_ok n h1 h2 L ex (by omega)).go [] (by simp (maxSteps := 1000000) [hF]) ?_;rintro av X κ ⟨rfl, rfl, rfl⟩;simp (maxSteps := 1000000) [hF]
    repeat first|refine n1 ?_|refine n2 ?_|refine n3 ?_|((first|refine rg 8 [1, 5, 6, 7, 8, 9, 10, 11, 12] [1, 5, 6, 9, 10, 11, 12, 60] [(3, 54)] ?_|refine rg 10 [1, 5, 6, 9, 10, 11, 12] [1, 5, 6, 9, 11, 12, 67] [(2, 63)] ?_|refine rg 13 [1, 5, 6, 9, 11, 12] [1, 5, 6, 9, 11, 83] [(2, 77)] ?_|refine rg 15 [1, 5, 6, 9, 11] [1, 5, 6, 9, 11, 13] [] ?_|refine nc ?_);simp (maxSteps := 1000000) [hF, hL, hLi, hLi2])
    refine VS.pick [1, 5, 6, 9, 11, 13] [0, 2, 3] (by simp [hF]) ?_;simp [hF]
    refine VS.rounds (fun m st => ∃ (k : Nat) (h : Hs) (fl : Nat → Bool), k + m = L.length ∧ h = houseE (bornE n) (L.take k) ∧ Fine n h ∧ st = ⟨[(1, .imm 5 (dIds L) ex), (5, .sub 0 [] 0 2 true), (6, avInt i), (9, .ptr 1 [.d]), (11, .sub 2 [] 0 L.length false), (13, avInt k)],
     [.sl true () 1 (dInts V), eH h fl, .sl true () 1 (dInts (toldsE (bornE n) L))], [], []⟩) ⟨L.length, 0, bornE n, fun _ => true, by omega, by simp [houseE], hb, by simp [heb]⟩ ?_
    rintro m2 st ⟨k, h, fl, hk, hh, hf, rfl⟩
    have hwk : IntKind.i64.wrap ((k : Int) + 1) = (k + 1 : Nat) := by rw [IntWalk.i64_in _ (by omega)]; rfl
    repeat first|refine n1 ?_|((first|refine rg 16 [1, 5, 6, 9, 11, 13] [1, 5, 6, 9, 11, 13, 87] [] ?_|refine nc ?_);simp (maxSteps := 1000000) [hF])
    refine ⟨fun hlt2 => ?_, fun hge2 => ?_⟩
    ·have hkl : k < L.length := by omega
     have hn1 := dIds_nth hkl
     have hxl : k < (toldsE (bornE n) L).length := by rw [toldsE_len]; exact hkl
     have hnx := dInts_nth hxl
     rw [toldsE_at hkl, ← hh] at hnx
     have htk : L.take (k + 1) = L.take k ++ [L[k]] := by rw [List.take_add_one, List.getElem?_eq_getElem hkl]; rfl
     have hh' : (pdoE h L[k]).1 = houseE (bornE n) (L.take (k + 1)) := by rw [htk, houseE_app, ← hh]
     repeat first|refine n1 ?_|refine n2 ?_|refine n3 ?_|((first|refine rg 18 [1, 5, 6, 9, 11, 13] [1, 5, 6, 9, 11, 13, 14] [] ?_|(refine dr 19 0 [1, 5, 6, 9, 11, 13, 14] [1, 5, 6, 9, 11, 13, 111] [] [⟨0, 2048, 19807040628566084398385987584, 5⟩, ⟨0, 8192, 39614081257132168796771975168, 5⟩, ⟨3, 59421121885698253195157962752, 79228162514264337593543950336, 5⟩, ⟨4, 79228162514264337593543950336, 158456325028528675187087900672, 6⟩, ⟨0, 512, 316912650057057350374175801344, 5⟩, ⟨0, 16384, 633825300114114700748351602688, 5⟩, ⟨32, 633825300114114700748351602688, 1267650600228229401496703205376, 6⟩, ⟨0, 16384, 2535301200456458802993406410752, 5⟩, ⟨128, 2535301200456458802993406410752, 5070602400912917605986812821504, 6⟩, ⟨0, 16384, 10141204801825835211973625643008, 5⟩, ⟨512, 10141204801825835211973625643008, 20282409603651670423947251286016, 6⟩, ⟨0, 16384, 40564819207303340847894502572032, 5⟩, ⟨2048, 40564819207303340847894502572032, 81129638414606681695789005144064, 6⟩, ⟨0, 16384, 162259276829213363391578010288128, 5⟩, ⟨8192, 162259276829213363391578010288128, 324518553658426726783156020576256, 6⟩, ⟨21824, 432268854677826225910375793033216, 649037107316853453566312041152512, 5⟩, ⟨32784, 649354019966910510916686216953856, 1298074214633706907132624082305024, 0⟩, ⟨65544, 1298232670958735435807811170205696, 2596148429267413814265248164610048, 5⟩] (.take 0 (.take 1 (.take 2 (.take 4 (.take 5 (.take 6 (.take 7 (.take 8 (.take 9 (.take 10 (.take 11 (.take 12 (.take 13 (.take 14 (.take 15 (.fork (.alt 3 (.fork (.alt 16 (.take 17 (.done)) (.nil))) (.alt 16 (.take 3 (.take 17 (.done))) (.nil))))))))))))))))))) (.run [0, 1, 2, 4, 5, 6, 7, 8, 9, 10, 11, 12, 13, 14, 15] (.both (.run [3, 16, 17] (.done)) (.run [16, 3, 17] (.done)))) ?_;simp only [drs]));simp (maxSteps := 1000000) [hF, hn1, hkl, hnx, hxl])
     all_goals (repeat' with_reducible refine And.intro ?_ ?_)
     all_goals (refine (Does_ok hf fl L[k]).go [(1, [])] (by simp (maxSteps := 1000000) [hF, avId, eH, hn1, hkl, hnx, hxl]) ?_;rintro av X κ ⟨fl', rfl, rfl, rfl⟩;simp (maxSteps := 1000000) [hF, avId, eH, hn1, hkl, hnx, hxl])
     all_goals (repeat' with_reducible refine And.intro ?_ ?_)
     all_goals (repeat first|refine n2 ?_|refine n4 ?_|refine n5 ?_|refine n6 ?_|((first|refine rg 17 [1, 5, 6, 9, 11, 13] [1, 5, 6, 9, 11, 13] [] ?_|refine nc ?_);simp (maxSteps := 1000000) [hF, hwk, hnx, hxl, hkl]))
     all_goals (refine nextK.of [1, 5, 6, 9, 11, 13] [0, 1, 2] (m2 - 1) (by omega) (by simp [hF]) ?_)
     all_goals exact ⟨k + 1, _, fl', by omega, hh', f_pdo hf _, by simp [eH]⟩
    ·repeat first|refine n4 ?_|refine n5 ?_|refine n6 ?_|refine n7 ?_|(refine rg 4 [1, 5, 6] [1, 5, 6] [] ?_;simp (maxSteps := 1000000) [hF, hwi])
     refine nextK.of [1, 5, 6] [0] (m - 1) (by omega) (by simp [hF]) ?_
     exact ⟨i + 1, by omega, by simp⟩
 ·repeat first|refine n1 ?_|refine n7 ?_|(refine rg 21 [] [4] [] ?_;simp (maxSteps := 1000000) [hF])
  refine (sane_ok).go [] (by simp (maxSteps := 1000000) [hF]) ?_;rintro av X κ ⟨rfl, rfl, rfl⟩;simp (maxSteps := 1000000) [hF]
  (try refine nr ?_);(repeat first|refine nb_ ?_|refine nl_ ?_);refine endK.o [4] [] [] ?_;simp [hF, retK, covers, mpre]
end Go.Proofs.Ytkkbcpcihadkhaa

/- The arguments of the laws: deeds of Play. -/
namespace Go.Proofs.Ytkkbcpcihadkhaa
set_option linter.all false
open Go.Vc Go.Proofs Go
set_option maxRecDepth 100000
theorem reads_id : Reads Try.prog 64 5 fun d => ∃ x, d = dId x := by
  have h := reads_struct (gs := [(1, fun d => ∃ n, d = .val (.int .i64 n)), (1, fun d => ∃ n, d = .val (.int .i64 n)), (1, fun d => ∃ n, d = .val (.int .i64 n)), (1, fun d => ∃ n, d = .val (.int .i64 n)), (1, fun d => ∃ n, d = .val (.int .i64 n))]) Try.underlying64
    ⟨reads_int Try.underlying3, by kernel_rfl, rfl, reads_int Try.underlying3, by kernel_rfl, rfl, reads_int Try.underlying3, by kernel_rfl, rfl, reads_int Try.underlying3, by kernel_rfl, rfl, reads_int Try.underlying3, by kernel_rfl, rfl, trivial⟩ (by kernel_rfl)
  refine fun H enc w fuel cs x hx => ?_
  obtain ⟨g, h1, h2, h3, h4, s, h5, a1, t1, rfl, ⟨n1, rfl⟩, a2, t2, rfl, ⟨n2, rfl⟩, a3, t3, rfl, ⟨n3, rfl⟩, a4, t4, rfl, ⟨n4, rfl⟩, a5, t5, rfl, ⟨n5, rfl⟩, rfl⟩ := h H enc w fuel cs x hx
  exact ⟨g, h1, h2, h3, h4, ⟨n1, n2, n3, n4, n5⟩, h5⟩
section
variable {H : Type} {enc : TypeId × Value → H} {w : World} {r : Go.Reach} {b0 : Nat} {v : Value} {d : DataW H} {ps : List MemPlace}
theorem ideeds_of (hv : Value.okWide Try.prog w r b0 55 v) (h : DataW.Trod enc Try.prog w 0 (fun _ => true) true 55 v d ps) :
    ∃ l : List Id5, l.length ≤ 2 ^ 63 - 1 ∧ Rl w.heap (allB w) [] (.imm 5 (dIds l) false) true [v] := by
  obtain ⟨l, h1, h2, h3⟩ := imm_of_trod (z := 5) Try.underlying55 reads_id (by kernel_rfl) (by omega) hv h
  obtain ⟨ys, rfl⟩ := map_of h1
  exact ⟨ys, by simpa using h2, h3⟩
end
end Go.Proofs.Ytkkbcpcihadkhaa

/- Proved: IsolateTells returns true for every input, and its arguments read behind the call as before. No condition. -/
namespace Go.Proofs.Ytkkbcpcihadkhaa.isolateTells
set_option linter.all false
open Go.Vc Go.ChangeShapes Go.WideShapes Go.ChangeAt Go.RowKit
set_option linter.unusedVariables false
theorem own : ownKnob Try.prog.godebug = none := by kernel_rfl
theorem laid : laidOutB Try.prog = true := by kernel_rfl
set_option maxRecDepth 100000 in
theorem lifted (os : Os) (started : os.Started) (H : Type) (enc : TypeId × Value → H) :
    ReturnsInHanded {} Try.checked os 6 .any (Rows.isolateTellsSpec.pre6 enc Try.prog Try.f6 Rows.isolateTellsRow.domain false) (Rows.isolateTellsSpec.post enc Try.prog Try.f6 false true false false) := by
  refine returnsInHanded_of_change (C := Try.checked) own started (by kernel_rfl) Try.func6
    (ChangeSpec.witness6 (enc := enc) (C := Try.checked) false ⟨#[], #[.int .i64 0, .slice none 0 0], []⟩ 8 (by kernel_rfl) (by kernel_rfl) (by kernel_rfl) (by kernel_rfl)) ?_
  intro W base args ds gs before hval0 hW hcnd _
  have hval : ∀ (j : Nat) t v, Try.f6.params[j]? = some t → args[j]? = some v → Value.okWide Try.prog W .any base t v := hval0
  have hW' := hW
  obtain ⟨p, q, hA0, hV, rfl, hfz, hnd⟩ := hW
  have hA : DataW.TrodAll enc Try.prog W 0 (fun _ => true) true Try.f6.params.toList args.toList ds p := hA0
  rw [Try.params6] at hA hval
  obtain ⟨v0, vs0, d0, ds0, p0, q0, hargs0, rfl, rfl, h0, r0⟩ := trodAll_cons hA
  obtain ⟨v1, vs1, d1, ds1, p1, q1, hargs1, rfl, rfl, h1, r1⟩ := trodAll_cons r0
  obtain ⟨rfl, rfl, rfl⟩ := trodAll_nil r1
  subst hargs1
  obtain rfl : args = #[v0, v1] := by cases args; simp_all
  obtain ⟨rfl, rfl⟩ := trodVars_none hV
  obtain ⟨a0, hr0⟩ := int_of (hval 0 3 v0 rfl rfl) h0
  obtain ⟨a1, hlen1, hr1⟩ := ideeds_of (hval 1 55 v1 rfl rfl) h1
  clear hA0 hval0
  have hwalk : Calls Try.prog 6 #[v0, v1] W fun e w' => e = .returned (.bool true) ∧ Below W.heap.size W w' :=
    Meets.law (tells_ok a0 a1 false) (vs := [v0, v1]) (I := allB W) (fun _ h => h) ⟨v0, _, rfl, hr0, ⟨v1, _, rfl, hr1, rfl⟩⟩
  refine hwalk.mono fun e W' ⟨he, bel⟩ => ?_
  subst he
  exact ⟨_, rfl, _, _, _, [], _, [], hW', trodAll_mk1 (shut_bool Try.underlying4 _), (trodAll_cons_mk (Below.trod laid (by kernel_rfl) (of_decide_eq_true (by kernel_rfl)) h0 bel fun x hx => hW'.lt x (by simp [hx])) (trodAll_cons_mk (Below.trod laid (by kernel_rfl) (of_decide_eq_true (by kernel_rfl)) h1 bel fun x hx => hW'.lt x (by simp [hx])) trodAll_mk0)), rfl, bel.frame _, fun h => by cases h⟩
theorem over : Rows.isolateTellsRow.holds Try.pinned (OpenSpec.ofChange Rows.isolateTellsSpec) :=
  OpenClaim.holds_of_wide 6 Try.f6 rfl rfl rfl rfl rfl rfl rfl ⟨rfl, rfl, rfl, rfl, rfl⟩ rfl rfl rfl rfl rfl (by kernel_rfl) Try.func6 (by kernel_rfl)
    (of_decide_eq_true (by kernel_rfl)) (by unfold Func.isWrapper; first | (rw [if_pos (by decide +kernel)]; kernel_rfl) | (rw [if_neg (by decide +kernel)]; exact ⟨rfl, rfl⟩))
    (fun os started H enc _ => lifted os started H enc)
theorem proved : Rows.IsolateTellsSaid :=
  over
end Go.Proofs.Ytkkbcpcihadkhaa.isolateTells
