/- A copy of a house of the document. -/
import Derived.Test.YtkkbcpcihadkhaaK6
import Derived.Test.YtkkbcpcihadkhaaK7
import Derived.Test.YtkkbcpcihadkhaaRows
import Derived.Test.YtkkbcpcihadkhaaK8
import Derived.WalkKit
import Derived.ProofKit
import Derived.OpenShut
import Derived.ShutString
import Derived.ChangeOld
import Derived.Carry
namespace Go.Proofs.Ytkkbcpcihadkhaa
set_option linter.all false
open Go.Vc Go.Proofs
set_option linter.unusedSimpArgs false
set_option linter.unusedVariables false
set_option maxRecDepth 100000
set_option maxHeartbeats 4000000
attribute [local irreducible] CallW EqK
theorem ecopy_i (h : Hs) (hok : Hok h) : Meets Try.prog 30 [] (.cons (avE h) .nil) fun av X κ => av = .ptr 0 [.d] ∧ X = [eH h fun _ => true] ∧ κ = [] := by
 have hrl := hok.rooms
 have htl := hok.things
 refine fb Try.func30 Try.ntmps30 [.tmp 2] fun w0 I0 F0 hF => ?_
 repeat first|refine n1 ?_|refine n2 ?_|refine n3 ?_|((first|refine rg 0 [0] [0] [] ?_|refine rg 1 [0] [0, 15] [(2, 9)] ?_|refine rg 3 [0] [0, 3] [] ?_|refine rg 4 [0, 3] [0, 3, 4] [] ?_|refine nc ?_);simp (maxSteps := 1000000) [hF, eHI])
 refine VS.pick [0, 3, 4] [0] (by simp [hF]) ?_;simp [hF]
 refine VS.rounds (fun m st => ∃ (i : Nat) (P : List Rm), i + m = h.rooms.length ∧ P = h.rooms.take i ∧ st = ⟨[(0, avE h), (3, .ptr 0 [.d]), (4, avInt i)],
  [.box true () (.agg (.cons (.val (.bool true)) (.cons (.sl true () 2 (eRms true P)) (.cons (.sl true () 5 .nil) .nil))))], [], []⟩) ⟨h.rooms.length, 0, [], by omega, by simp, by simp [eRms, sq]⟩ ?_
 rintro m st ⟨i, P, hi, hP, rfl⟩
 have hPl : P.length = i := by rw [hP, List.length_take]; omega
 repeat first|refine n1 ?_|((first|refine rg 5 [0, 3, 4] [0, 3, 4, 24] [] ?_|refine nc ?_);simp (maxSteps := 1000000) [hF, eHI])
 refine ⟨fun hlt => ?_, fun hge => ?_⟩
 ·have hn1 := eRms_nth (o := false) hlt
  have hql : h.rooms[i].queue.length ≤ 100000000 := by have := (hok.queues _ (List.getElem_mem hlt)).1; omega
  have hw : IntKind.i64.wrap ((i : Int) + 1) = (i + 1 : Nat) := by rw [IntWalk.i64_in _ (by omega)]; rfl
  have hp := eRms_push true P h.rooms[i].queue h.rooms[i].over
  have hP2 : P ++ [(⟨h.rooms[i].queue, h.rooms[i].over⟩ : Rm)] = h.rooms.take (i + 1) := by rw [hP, List.take_add_one, List.getElem?_eq_getElem hlt]; rfl
  have hm : (eRms true (h.rooms.take (i + 1))).mid 0 (P.length + 1) = eRms true (h.rooms.take (i + 1)) := sq_mid_all _ _ (by simp; omega)
  have hm2 : (dInts h.rooms[i].queue).mid 0 h.rooms[i].queue.length = dInts h.rooms[i].queue := by simp
  have c1 : (P.length + 1) * 32 ≤ 140737488355328 := by omega
  have c2 : P.length ≤ 9223372036854775806 := by omega
  rw [hP2] at hp
  repeat first|refine n1 ?_|refine n2 ?_|refine n3 ?_
  refine ghostL 0 [.d, .f 1] ?_;simp (maxSteps := 1000000) [hF, St.lift, AV.lift, liftPl, stripP, nodeAV, isNode]
  repeat first|((refine dr 7 0 [0, 3, 4] [0, 3, 4] [] [⟨0, 8, 134217728, 5⟩, ⟨0, 8, 268435456, 5⟩, ⟨2, 268435456, 536870912, 5⟩, ⟨4, 536870912, 1073741824, 5⟩, ⟨8, 1073741824, 2147483648, 6⟩, ⟨0, 1, 4294967296, 5⟩, ⟨32, 4294967296, 8589934592, 5⟩, ⟨64, 8589934592, 17179869184, 5⟩, ⟨128, 17179869184, 34359738368, 6⟩, ⟨0, 16, 68719476736, 5⟩, ⟨768, 103079215104, 137438953472, 5⟩, ⟨1024, 137438953472, 274877906944, 5⟩, ⟨2048, 274877906944, 549755813888, 6⟩, ⟨0, 1, 1099511627776, 5⟩, ⟨8192, 1099511627776, 2199023255552, 5⟩, ⟨16384, 2199023255552, 4398046511104, 5⟩, ⟨32768, 4398046511104, 8796093022208, 6⟩, ⟨0, 16, 17592186044416, 5⟩, ⟨196608, 26388279066624, 35184372088832, 5⟩, ⟨262144, 35184372088832, 70368744177664, 5⟩, ⟨524288, 70368744177664, 140737488355328, 6⟩, ⟨1048576, 140737488355328, 281474976710656, 0⟩, ⟨2101248, 282024732524544, 562949953421312, 5⟩, ⟨4194304, 562949953421312, 1125899906842624, 4⟩, ⟨10485776, 1125902054326272, 2251799813685248, 0⟩, ⟨33554431, 134217728, 4503599627370496, 5⟩, ⟨67108863, 4503599627370496, 9007199254740992, 5⟩, ⟨100663295, 11258999068426240, 0, 0⟩] (.take 0 (.take 1 (.take 2 (.take 3 (.take 5 (.take 6 (.take 7 (.take 9 (.take 13 (.take 14 (.take 15 (.take 16 (.take 17 (.take 18 (.take 19 (.take 20 (.fork (.alt 4 (.fork (.alt 8 (.take 10 (.take 11 (.fork (.alt 12 (.fork (.alt 21 (.take 22 (.fork (.alt 23 (.fork (.alt 24 (.take 25 (.take 26 (.fork (.alt 27 (.done) (.nil))))) (.nil))) (.nil)))) (.nil))) (.alt 21 (.take 12 (.take 22 (.fork (.alt 23 (.fork (.alt 24 (.take 25 (.take 26 (.fork (.alt 27 (.done) (.nil))))) (.nil))) (.nil))))) (.nil)))))) (.alt 21 (.take 8 (.take 10 (.take 11 (.take 12 (.take 22 (.fork (.alt 23 (.fork (.alt 24 (.take 25 (.take 26 (.fork (.alt 27 (.done) (.nil))))) (.nil))) (.nil)))))))) (.nil)))) (.alt 8 (.take 10 (.take 11 (.fork (.alt 4 (.fork (.alt 12 (.fork (.alt 21 (.take 22 (.fork (.alt 23 (.fork (.alt 24 (.take 25 (.take 26 (.fork (.alt 27 (.done) (.nil))))) (.nil))) (.nil)))) (.nil))) (.alt 21 (.take 12 (.take 22 (.fork (.alt 23 (.fork (.alt 24 (.take 25 (.take 26 (.fork (.alt 27 (.done) (.nil))))) (.nil))) (.nil))))) (.nil)))) (.alt 12 (.fork (.alt 4 (.fork (.alt 21 (.take 22 (.fork (.alt 23 (.fork (.alt 24 (.take 25 (.take 26 (.fork (.alt 27 (.done) (.nil))))) (.nil))) (.nil)))) (.nil))) (.alt 21 (.take 4 (.take 22 (.fork (.alt 23 (.fork (.alt 24 (.take 25 (.take 26 (.fork (.alt 27 (.done) (.nil))))) (.nil))) (.nil))))) (.nil)))) (.alt 21 (.take 4 (.take 12 (.take 22 (.fork (.alt 23 (.fork (.alt 24 (.take 25 (.take 26 (.fork (.alt 27 (.done) (.nil))))) (.nil))) (.nil)))))) (.nil))))))) (.alt 21 (.take 4 (.take 8 (.take 10 (.take 11 (.take 12 (.take 22 (.fork (.alt 23 (.fork (.alt 24 (.take 25 (.take 26 (.fork (.alt 27 (.done) (.nil))))) (.nil))) (.nil))))))))) (.nil))))))))))))))))))))) (.run [0, 1, 2, 3, 5, 6, 7, 9, 13, 14, 15, 16, 17, 18, 19, 20] (.both (.run [4] (.both (.run [8, 10, 11] (.both (.run [12, 21, 22, 23, 24, 25, 26, 27] (.done)) (.run [21, 12, 22, 23, 24, 25, 26, 27] (.done)))) (.run [21, 8, 10, 11, 12, 22, 23, 24, 25, 26, 27] (.done)))) (.both (.run [8, 10, 11] (.both (.run [4] (.both (.run [12, 21, 22, 23, 24, 25, 26, 27] (.done)) (.run [21, 12, 22, 23, 24, 25, 26, 27] (.done)))) (.both (.run [12] (.both (.run [4, 21, 22, 23, 24, 25, 26, 27] (.done)) (.run [21, 4, 22, 23, 24, 25, 26, 27] (.done)))) (.run [21, 4, 12, 22, 23, 24, 25, 26, 27] (.done))))) (.run [21, 4, 8, 10, 11, 12, 22, 23, 24, 25, 26, 27] (.done))))) ?_;simp only [drs]);simp (maxSteps := 1000000) [hF, eHI, hn1, hlt])
  all_goals (repeat' refine And.intro ?_ ?_)
  all_goals (refine (eown_ok false h.rooms[i].queue hql).go [] (by simp (maxSteps := 1000000) [hF, eHI, hn1, hlt, hp, hm, hm2, c1, c2]) ?_;rintro av X κ ⟨rfl, rfl, rfl⟩;simp (maxSteps := 1000000) [hF, eHI, hn1, hlt, hp, hm, hm2, c1, c2])
  all_goals (repeat' refine And.intro ?_ ?_)
  all_goals (repeat first|refine n4 ?_|refine n5 ?_|refine n6 ?_|(refine rg 6 [0, 3, 4] [0, 3, 4] [] ?_;simp (maxSteps := 1000000) [hF, eHI, hn1, hlt, hp, hm, hm2, c1, c2, hw]))
  all_goals (refine nextK.of [0, 3, 4] [0] (m - 1) (by omega) (by simp [hF]) ?_)
  all_goals exact ⟨i + 1, _, by omega, rfl, by simp⟩
 ·have hPf : P = h.rooms := by rw [hP, List.take_of_length_le (by omega)]
  repeat first|refine n1 ?_|refine n3 ?_|refine n7 ?_|(refine rg 8 [0, 3] [0, 3, 5] [] ?_;simp (maxSteps := 1000000) [hF])
  refine VS.pick [0, 3, 5] [0] (by simp [hF]) ?_;simp [hF]
  refine VS.rounds (fun m st => ∃ (i : Nat) (Q : List Tg), i + m = h.things.length ∧ Q = h.things.take i ∧ st = ⟨[(0, avE h), (3, .ptr 0 [.d]), (5, avInt i)],
   [.box true () (.agg (.cons (.val (.bool true)) (.cons (.sl true () 2 (eRms true h.rooms)) (.cons (.sl true () 5 (eTgs true Q)) .nil))))], [], []⟩) ⟨h.things.length, 0, [], by omega, by simp, by simp [eTgs, sq, hPf]⟩ ?_
  rintro m st ⟨i, Q, hi, hQ, rfl⟩
  have hQl : Q.length = i := by rw [hQ, List.length_take]; omega
  repeat first|refine n1 ?_|((first|refine rg 9 [0, 3, 5] [0, 3, 5, 60] [] ?_|refine nc ?_);simp (maxSteps := 1000000) [hF, eHI])
  refine ⟨fun hlt => ?_, fun hge => ?_⟩
  ·have hn1 := eTgs_nth (o := false) hlt
   have hql : h.things[i].items.length ≤ 100000000 := by have := hok.few _ (List.getElem_mem hlt); omega
   have hw : IntKind.i64.wrap ((i : Int) + 1) = (i + 1 : Nat) := by rw [IntWalk.i64_in _ (by omega)]; rfl
   have hp := eTgs_push true Q h.things[i].owner h.things[i].list h.things[i].word h.things[i].items h.things[i].frozen
   have hQ2 : Q ++ [(⟨h.things[i].owner, h.things[i].list, h.things[i].word, h.things[i].items, h.things[i].frozen⟩ : Tg)] = h.things.take (i + 1) := by rw [hQ, List.take_add_one, List.getElem?_eq_getElem hlt]; rfl
   have hm : (eTgs true (h.things.take (i + 1))).mid 0 (Q.length + 1) = eTgs true (h.things.take (i + 1)) := sq_mid_all _ _ (by simp; omega)
   have hm2 : (dInts h.things[i].items).mid 0 h.things[i].items.length = dInts h.things[i].items := by simp
   have c1 : (Q.length + 1) * 56 ≤ 140737488355328 := by omega
   have c1' : (Q.length + 1) * 48 ≤ 140737488355328 := by omega
   have c2 : Q.length ≤ 9223372036854775806 := by omega
   rw [hQ2] at hp
   repeat first|refine n1 ?_|refine n2 ?_|refine n3 ?_|((first|refine rg 11 [0, 3, 5] [0, 3, 5, 6] [] ?_|refine rg 12 [0, 3, 5, 6] [0, 3, 5, 6] [] ?_);simp (maxSteps := 1000000) [hF, eHI, hn1, hlt])
   refine (eown_ok false h.things[i].items hql).go [] (by simp (maxSteps := 1000000) [hF, eHI, hn1, hlt]) ?_;rintro av X κ ⟨rfl, rfl, rfl⟩;simp (maxSteps := 1000000) [hF, eHI, hn1, hlt]
   refine ghostL 1 [.d, .f 4] ?_;simp (maxSteps := 1000000) [hF, St.lift, AV.lift, liftPl, stripP, nodeAV, isNode]
   refine ghostL 0 [.d, .f 2] ?_;simp (maxSteps := 1000000) [hF, St.lift, AV.lift, liftPl, stripP, nodeAV, isNode]
   repeat first|refine n4 ?_|refine n5 ?_|refine n6 ?_|((first|refine rg 10 [0, 3, 5] [0, 3, 5] [] ?_|(refine dr 13 0 [0, 3, 5, 6] [0, 3, 5] [] [⟨0, 8, 18889465931478580854784, 5⟩, ⟨0, 8, 37778931862957161709568, 5⟩, ⟨2, 37778931862957161709568, 75557863725914323419136, 5⟩, ⟨4, 75557863725914323419136, 151115727451828646838272, 5⟩, ⟨8, 151115727451828646838272, 302231454903657293676544, 6⟩, ⟨0, 64, 604462909807314587353088, 6⟩, ⟨32, 604462909807314587353088, 1208925819614629174706176, 4⟩, ⟨80, 1511157274518286468382720, 2417851639229258349412352, 0⟩, ⟨255, 18889465931478580854784, 4835703278458516698824704, 5⟩, ⟨511, 4835703278458516698824704, 9671406556917033397649408, 5⟩, ⟨767, 12089258196146291747061760, 0, 0⟩] (.take 0 (.take 1 (.take 2 (.take 3 (.take 4 (.take 5 (.fork (.alt 6 (.fork (.alt 7 (.take 8 (.take 9 (.fork (.alt 10 (.done) (.nil))))) (.nil))) (.nil))))))))) (.run [0, 1, 2, 3, 4, 5, 6, 7, 8, 9, 10] (.done)) ?_;simp only [drs]));simp (maxSteps := 1000000) [hF, hp, hm, hm2, hw, c1, c1', c2])
   refine nextK.of [0, 3, 5] [0] (m - 1) (by omega) (by simp [hF]) ?_
   exact ⟨i + 1, _, by omega, rfl, by simp⟩
  ·have hQf : Q = h.things := by rw [hQ, List.take_of_length_le (by omega)]
   repeat first|refine n1 ?_|refine n7 ?_|(refine rg 14 [3] [2] [] ?_;simp (maxSteps := 1000000) [hF])
   (try refine nr ?_);(repeat first|refine nb_ ?_|refine nl_ ?_);refine endK.o [2] [0] [] ?_;simp [hF, retK, covers, mpre, eH, hQf, eRmsF_true]
theorem own_eH (h : Hs) : (eH h fun _ => true).allOwn = true := by
 have h1 : (eRms true h.rooms).allOwn = true := own_sq fun x hx => by obtain ⟨c, _, rfl⟩ := List.mem_map.1 hx; simp [eRm, T.allOwn]
 have h2 : (eTgs true h.things).allOwn = true := own_sq fun x hx => by obtain ⟨c, _, rfl⟩ := List.mem_map.1 hx; simp [eTg, T.allOwn]
 simp [eH, T.allOwn, eRmsF_true, h1, h2]
theorem copy_c (h : Hs) (hok : Hok h) (hr : 0 < h.rooms.length) : Meets Try.prog 29 [dH h] (.cons (.ptr 0 [.d]) .nil) fun av X κ => av = .ptr 1 [.d] ∧ X = [dH h, dH h] ∧ κ = [] :=
 warmH (copy_i h hok hr) rfl rfl (by simp) rfl
theorem ecopy_c (h : Hs) (fl : Nat → Bool) (hok : Hok h) : Meets Try.prog 30 [eH h fl] (.cons (.ptr 0 [.d]) .nil) fun av X κ => av = .ptr 1 [.d] ∧ X = [eH h fl, eH h fun _ => true] ∧ κ = [] :=
 warmE (ecopy_i h hok) rfl rfl (by simp [own_eH]) rfl
theorem copies_ok (nn : Int) (L M : List Ld) (ex ex2 : Bool) : Meets Try.prog 9 [] (.cons (avInt nn) (.cons (.imm 6 (dLds L) ex) (.cons (.imm 6 (dLds M) ex2) .nil))) fun av X κ => av = .val (.bool true) := by
 refine fb Try.func9 Try.ntmps9 [.tmp 6] fun w0 I0 F0 hF => ?_
 repeat first|refine n1 ?_|((first|refine rg 0 [0, 1, 2] [0, 1, 2] [] ?_|refine rg 1 [0, 1, 2] [2, 7, 8, 9] [] ?_);simp (maxSteps := 1000000) [hF])
 refine (played_ok nn L ex).go [] (by simp (maxSteps := 1000000) [hF]) ?_;rintro av X κ ⟨n, h, fl, h1, h2, hf, rfl, rfl, rfl⟩;simp (maxSteps := 1000000) [hF]
 have hok := hf.good.ok
 have hrl := hf.rooms
 have hnr : (norm h).rooms.length = n := hf.rooms
 repeat first|refine n1 ?_|refine n2 ?_|((first|refine rg 2 [2, 7, 8, 9] [2, 7, 8, 21] [] ?_|refine rg 4 [2, 7, 8] [2, 7, 8, 10] [] ?_|refine nc ?_);simp (maxSteps := 1000000) [hF])
 refine (copy_c (norm h) (norm_hok.2 hok) (by omega)).go [(0, [])] (by simp (maxSteps := 1000000) [hF, dH]) ?_;rintro av X κ ⟨rfl, rfl, rfl⟩;simp (maxSteps := 1000000) [hF, dH]
 repeat first|refine n1 ?_|(refine rg 5 [2, 7, 8, 10] [2, 7, 8, 10, 11] [] ?_;simp (maxSteps := 1000000) [hF])
 refine (ecopy_c h fl hok).go [(1, [])] (by simp (maxSteps := 1000000) [hF, eH]) ?_;rintro av X κ ⟨rfl, rfl, rfl⟩;simp (maxSteps := 1000000) [hF, eH]
 repeat first|refine n1 ?_|refine n2 ?_|refine n3 ?_|((first|refine rg 6 [2, 7, 8, 10, 11] [2, 7, 8, 10, 11, 27] [] ?_|refine rg 8 [2, 7, 8, 10, 11] [2, 7, 8, 10, 11, 12] [] ?_|refine nc ?_);simp (maxSteps := 1000000) [hF])
 refine VS.rounds (fun m st => ∃ (i : Nat) (h' : Hs) (fl' : Nat → Bool), i + m = M.length ∧ Fine n h' ∧ st = ⟨[(2, .imm 6 (dLds M) ex2), (7, .ptr 0 [.d]), (8, .ptr 1 [.d]), (10, .ptr 2 [.d]), (11, .ptr 3 [.d]), (12, avInt i)], [dH (norm h), eH h fl, dH (norm h'), eH h' fl'], [], []⟩) ⟨M.length, 0, h, fun _ => true, by omega, hf, by simp [dH, eH]⟩ ?_
 rintro m st ⟨i, h', fl', hi, hf', rfl⟩
 repeat first|refine n1 ?_|(refine rg 9 [2, 7, 8, 10, 11, 12] [2, 7, 8, 10, 11, 12, 35] [(4, 32)] ?_;simp (maxSteps := 1000000) [hF])
 refine ⟨fun hlt => ?_, fun hge => ?_⟩
 ·repeat first|(refine nc ?_;simp (maxSteps := 1000000) [hF])
  refine ⟨fun h90 => ?_, fun h90 => ?_⟩
  ·have hn1 := dLds_nth hlt
   have hw : IntKind.i64.wrap ((i : Int) + 1) = (i + 1 : Nat) := by rw [IntWalk.i64_in _ (by omega)]; rfl
   repeat first|refine n1 ?_|refine n2 ?_|refine n3 ?_|(refine rg 11 [2, 7, 8, 10, 11, 12] [2, 7, 8, 10, 11, 12, 45] [] ?_;simp (maxSteps := 1000000) [hF, hn1, hlt])
   refine (does_ok hf' (by omega) fl' M[i]).go [(2, []), (3, [])] (by simp (maxSteps := 1000000) [hF, avLd, dH, eH]) ?_;rintro av X κ ⟨d', fl2, rfl, rfl, rfl⟩;simp (maxSteps := 1000000) [hF, avLd, dH, eH]
   repeat first|refine n2 ?_|refine n4 ?_|refine n5 ?_|refine n6 ?_|((first|refine rg 10 [2, 7, 8, 10, 11, 12] [2, 7, 8, 10, 11, 12] [] ?_|refine nc ?_);simp (maxSteps := 1000000) [hF, hw])
   refine nextK.of [2, 7, 8, 10, 11, 12] [0, 1, 2, 3] (m - 1) (by omega) (by simp [hF]) ?_
   exact ⟨i + 1, _, fl2, by omega, f_do hf' d', by simp [dH, eH, norm]⟩
  ·repeat first|refine n1 ?_|refine n7 ?_|(refine rg 13 [7, 8, 10, 11] [6] [(3, 49), (8, 54)] ?_;simp (maxSteps := 1000000) [hF])
   refine (alike_c h' fl' hf'.good.ok).go [(3, []), (2, [])] (by simp (maxSteps := 1000000) [hF, dH, eH]) ?_;rintro av X κ ⟨rfl, rfl, rfl⟩;simp (maxSteps := 1000000) [hF, dH, eH]
   refine (alike_c h fl hok).go [(1, []), (0, [])] (by simp (maxSteps := 1000000) [hF, dH, eH]) ?_;rintro av X κ ⟨rfl, rfl, rfl⟩;simp (maxSteps := 1000000) [hF, dH, eH]
   refine (sane_ok).go [] (by simp (maxSteps := 1000000) [hF]) ?_;rintro av X κ ⟨rfl, rfl, rfl⟩;simp (maxSteps := 1000000) [hF]
   (try refine nr ?_);(repeat first|refine nb_ ?_|refine nl_ ?_);refine endK.o [6] [] [] ?_;simp [hF, retK, covers, mpre]
 ·repeat first|refine n1 ?_|refine n7 ?_|((first|refine rg 13 [7, 8, 10, 11] [6] [(3, 49), (8, 54)] ?_|refine nc ?_);simp (maxSteps := 1000000) [hF])
  refine (alike_c h' fl' hf'.good.ok).go [(3, []), (2, [])] (by simp (maxSteps := 1000000) [hF, dH, eH]) ?_;rintro av X κ ⟨rfl, rfl, rfl⟩;simp (maxSteps := 1000000) [hF, dH, eH]
  refine (alike_c h fl hok).go [(1, []), (0, [])] (by simp (maxSteps := 1000000) [hF, dH, eH]) ?_;rintro av X κ ⟨rfl, rfl, rfl⟩;simp (maxSteps := 1000000) [hF, dH, eH]
  refine (sane_ok).go [] (by simp (maxSteps := 1000000) [hF]) ?_;rintro av X κ ⟨rfl, rfl, rfl⟩;simp (maxSteps := 1000000) [hF]
  (try refine nr ?_);(repeat first|refine nb_ ?_|refine nl_ ?_);refine endK.o [6] [] [] ?_;simp [hF, retK, covers, mpre]
end Go.Proofs.Ytkkbcpcihadkhaa

/- Proved: IsolateCopies returns true for every input, and its arguments read behind the call as before. No condition. -/
namespace Go.Proofs.Ytkkbcpcihadkhaa.isolateCopies
set_option linter.all false
open Go.Vc Go.ChangeShapes Go.WideShapes Go.ChangeAt Go.RowKit
set_option linter.unusedVariables false
theorem own : ownKnob Try.prog.godebug = none := by kernel_rfl
theorem laid : laidOutB Try.prog = true := by kernel_rfl
set_option maxRecDepth 100000 in
theorem lifted (os : Os) (started : os.Started) (H : Type) (enc : TypeId × Value → H) :
    ReturnsInHanded {} Try.checked os 9 .any (Rows.isolateCopiesSpec.pre6 enc Try.prog Try.f9 Rows.isolateCopiesRow.domain false) (Rows.isolateCopiesSpec.post enc Try.prog Try.f9 false true false false) := by
  refine returnsInHanded_of_change (C := Try.checked) own started (by kernel_rfl) Try.func9
    (ChangeSpec.witness6 (enc := enc) (C := Try.checked) false ⟨#[], #[.int .i64 0, .slice none 0 0, .slice none 0 0], []⟩ 8 (by kernel_rfl) (by kernel_rfl) (by kernel_rfl) (by kernel_rfl)) ?_
  intro W base args ds gs before hval0 hW hcnd _
  have hval : ∀ (j : Nat) t v, Try.f9.params[j]? = some t → args[j]? = some v → Value.okWide Try.prog W .any base t v := hval0
  have hW' := hW
  obtain ⟨p, q, hA0, hV, rfl, hfz, hnd⟩ := hW
  have hA : DataW.TrodAll enc Try.prog W 0 (fun _ => true) true Try.f9.params.toList args.toList ds p := hA0
  rw [Try.params9] at hA hval
  obtain ⟨v0, vs0, d0, ds0, p0, q0, hargs0, rfl, rfl, h0, r0⟩ := trodAll_cons hA
  obtain ⟨v1, vs1, d1, ds1, p1, q1, hargs1, rfl, rfl, h1, r1⟩ := trodAll_cons r0
  obtain ⟨v2, vs2, d2, ds2, p2, q2, hargs2, rfl, rfl, h2, r2⟩ := trodAll_cons r1
  obtain ⟨rfl, rfl, rfl⟩ := trodAll_nil r2
  subst hargs2
  subst hargs1
  obtain rfl : args = #[v0, v1, v2] := by cases args; simp_all
  obtain ⟨rfl, rfl⟩ := trodVars_none hV
  obtain ⟨a0, hr0⟩ := int_of (hval 0 3 v0 rfl rfl) h0
  obtain ⟨a1, hlen1, hr1⟩ := deeds_of (hval 1 22 v1 rfl rfl) h1
  obtain ⟨a2, hlen2, hr2⟩ := deeds_of (hval 2 22 v2 rfl rfl) h2
  clear hA0 hval0
  have hwalk : Calls Try.prog 9 #[v0, v1, v2] W fun e w' => e = .returned (.bool true) ∧ Below W.heap.size W w' :=
    Meets.law (copies_ok a0 a1 a2 false false) (vs := [v0, v1, v2]) (I := allB W) (fun _ h => h) ⟨v0, _, rfl, hr0, ⟨v1, _, rfl, hr1, ⟨v2, _, rfl, hr2, rfl⟩⟩⟩
  refine hwalk.mono fun e W' ⟨he, bel⟩ => ?_
  subst he
  exact ⟨_, rfl, _, _, _, [], _, [], hW', trodAll_mk1 (shut_bool Try.underlying4 _), (trodAll_cons_mk (Below.trod laid (by kernel_rfl) (of_decide_eq_true (by kernel_rfl)) h0 bel fun x hx => hW'.lt x (by simp [hx])) (trodAll_cons_mk (Below.trod laid (by kernel_rfl) (of_decide_eq_true (by kernel_rfl)) h1 bel fun x hx => hW'.lt x (by simp [hx])) (trodAll_cons_mk (Below.trod laid (by kernel_rfl) (of_decide_eq_true (by kernel_rfl)) h2 bel fun x hx => hW'.lt x (by simp [hx])) trodAll_mk0))), rfl, bel.frame _, fun h => by cases h⟩
theorem over : Rows.isolateCopiesRow.holds Try.pinned (OpenSpec.ofChange Rows.isolateCopiesSpec) :=
  OpenClaim.holds_of_wide 9 Try.f9 rfl rfl rfl rfl rfl rfl rfl ⟨rfl, rfl, rfl, rfl, rfl⟩ rfl rfl rfl rfl rfl (by kernel_rfl) Try.func9 (by kernel_rfl)
    (of_decide_eq_true (by kernel_rfl)) (by unfold Func.isWrapper; first | (rw [if_pos (by decide +kernel)]; kernel_rfl) | (rw [if_neg (by decide +kernel)]; exact ⟨rfl, rfl⟩))
    (fun os started H enc _ => lifted os started H enc)
theorem proved : Rows.IsolateCopiesSaid :=
  over
end Go.Proofs.Ytkkbcpcihadkhaa.isolateCopies
