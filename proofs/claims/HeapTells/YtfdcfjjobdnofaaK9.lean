/- HeapTells. -/
import Derived.Test.YtfdcfjjobdnofaaK8
import Derived.Test.YtfdcfjjobdnofaaRows
import Derived.WalkKit
import Derived.ProofKit
import Derived.OpenShut
import Derived.ShutString
import Derived.ChangeOld
import Derived.Carry
namespace Go.Proofs.Ytfdcfjjobdnofaa
set_option linter.all false
open Go.Vc Go.Proofs
set_option linter.unusedSimpArgs false
set_option linter.unusedVariables false
set_option maxRecDepth 100000
set_option maxHeartbeats 4000000
attribute [local irreducible] CallW EqK

/- cabochon/cabochonlaw27.HeapTells -/
theorem htells_ok (y o : Int) (L : List Id4) (ex : Bool) : Meets Try.prog 8 [] (.cons (avInt y) (.cons (avInt o) (.cons (.imm 4 (dIds L) ex) .nil))) fun av X κ => av = .val (.bool true) := by
 obtain ⟨V, hV⟩ : ∃ V : List (Int × Int), V = [(y, o), (roomY y, roomO y)] := ⟨_, rfl⟩
 have hVl : V.length = 2 := by rw [hV]; rfl
 have hVs : (T.sl true () 2 (.cons (.agg (.cons (.val (.int .i64 y)) (.cons (.val (.int .i64 o)) .nil))) (.cons (.agg (.cons (.val (.int .i64 (roomY y))) (.cons (.val (.int .i64 (roomO y))) .nil))) .nil)) : D) = .sl true () 2 (dEns V) := by rw [hV]; rfl
 refine fb Try.func8 Try.ntmps8 [.tmp 6] fun w0 I0 F0 hF => ?_
 repeat first|refine n1 ?_|((first|refine rg 0 [0, 1, 2] [0, 1, 2] [] ?_|refine rg 1 [0, 1, 2] [0, 1, 2, 7, 8] [] ?_);simp (maxSteps := 1000000) [hF])
 refine (rooms_ok y).go [] (by simp (maxSteps := 1000000) [hF]) ?_;rintro av X κ ⟨rfl, rfl, rfl⟩;simp (maxSteps := 1000000) [hF]
 repeat first|refine n1 ?_|refine n3 ?_|((first|refine rg 2 [0, 1, 2, 7, 8] [2, 9] [] ?_|refine rg 3 [2, 9] [2, 9, 10] [] ?_);simp (maxSteps := 1000000) [hF])
 refine VS.pick [2, 9, 10] [0] (by simp [hF]) ?_;simp [hF]
 refine VS.rounds (fun m st => ∃ (i : Nat), i + m = 2 ∧ st = ⟨[(2, .imm 4 (dIds L) ex), (9, .sub 0 [] 0 2 true), (10, avInt i)], [.sl true () 2 (dEns V)], [], []⟩) ⟨2, 0, by omega, by rw [← hVs]; simp⟩ ?_
 rintro m st ⟨i, hi, rfl⟩
 have hwi : IntKind.i64.wrap ((i : Int) + 1) = (i + 1 : Nat) := by rw [IntWalk.i64_in _ (by omega)]; rfl
 repeat first|refine n1 ?_|((first|refine rg 4 [2, 9, 10] [2, 9, 10, 31] [] ?_|refine nc ?_);simp (maxSteps := 1000000) [hF])
 refine ⟨fun hlt => ?_, fun hge => ?_⟩
 ·have hi2 : i < 2 := by omega
  have hi2' : i < V.length := by omega
  have hnt := dEns_nth hi2'
  generalize V[i].1 = a at hnt
  generalize V[i].2 = b at hnt
  by_cases hv : ((8 ≤ a ∧ a ≤ 1000) ∧ 8 ≤ b ∧ b ≤ 1000)
  ·repeat first|refine n1 ?_|refine n2 ?_|refine n3 ?_|((refine dr 6 0 [2, 9, 10] [2, 9, 10, 11, 12] [] [⟨0, 512, 34359738368, 5⟩, ⟨0, 1024, 68719476736, 5⟩, ⟨3, 103079215104, 137438953472, 5⟩, ⟨4, 137438953472, 274877906944, 5⟩, ⟨8, 274877906944, 549755813888, 6⟩, ⟨0, 512, 1099511627776, 5⟩, ⟨0, 1024, 2199023255552, 5⟩, ⟨96, 3298534883328, 4398046511104, 5⟩, ⟨128, 4398046511104, 8796093022208, 5⟩, ⟨256, 8796093022208, 17592186044416, 6⟩, ⟨528, 18141941858304, 35184372088832, 0⟩, ⟨1024, 35184372088832, 17179869184, 5⟩, ⟨2048, 17179869184, 70368744177664, 5⟩, ⟨2048, 17179869184, 140737488355328, 5⟩, ⟨8191, 70368744177664, 2048, 5⟩, ⟨32767, 140737488355328, 4096, 5⟩] (.take 0 (.take 1 (.take 2 (.take 3 (.take 4 (.take 5 (.take 6 (.take 7 (.take 8 (.take 9 (.fork (.alt 10 (.take 11 (.take 12 (.take 13 (.take 14 (.take 15 (.done)))))) (.nil))))))))))))) (.run [0, 1, 2, 3, 4, 5, 6, 7, 8, 9, 10, 11, 12, 13, 14, 15] (.done)) ?_;simp only [drs]);simp (maxSteps := 1000000) [hF, hnt, hi2', hVl, hi2, hlt])
   refine (new_ok a b hv.1 hv.2).go [] (by simp (maxSteps := 1000000) [hF, hnt, hi2', hVl, hi2, hlt]) ?_;rintro av X κ ⟨rfl, rfl, rfl⟩;simp (maxSteps := 1000000) [hF, hnt, hi2', hVl, hi2, hlt]
   repeat first|refine n1 ?_|((refine dr 7 0 [2, 9, 10, 11, 12] [2, 9, 10, 11, 12, 13, 14] [] [⟨0, 512, 562949953421312, 5⟩, ⟨0, 1024, 1125899906842624, 5⟩, ⟨3, 1688849860263936, 2251799813685248, 5⟩, ⟨4, 2251799813685248, 4503599627370496, 5⟩, ⟨8, 4503599627370496, 9007199254740992, 6⟩, ⟨0, 512, 18014398509481984, 5⟩, ⟨0, 1024, 36028797018963968, 5⟩, ⟨96, 54043195528445952, 72057594037927936, 5⟩, ⟨128, 72057594037927936, 144115188075855872, 5⟩, ⟨256, 144115188075855872, 288230376151711744, 6⟩, ⟨528, 297237575406452736, 576460752303423488, 0⟩, ⟨1024, 576460752303423488, 281474976710656, 5⟩, ⟨2048, 281474976710656, 1152921504606846976, 5⟩, ⟨2048, 281474976710656, 2305843009213693952, 5⟩, ⟨8191, 1152921504606846976, 8192, 5⟩, ⟨32767, 2305843009213693952, 16384, 5⟩] (.take 0 (.take 1 (.take 2 (.take 3 (.take 4 (.take 5 (.take 6 (.take 7 (.take 8 (.take 9 (.fork (.alt 10 (.take 11 (.take 12 (.take 13 (.take 14 (.take 15 (.done)))))) (.nil))))))))))))) (.run [0, 1, 2, 3, 4, 5, 6, 7, 8, 9, 10, 11, 12, 13, 14, 15] (.done)) ?_;simp only [drs]);simp (maxSteps := 1000000) [hF, hnt, hi2', hVl, hi2, hlt])
   refine (enew_ok a b hv.1 hv.2).go [] (by simp (maxSteps := 1000000) [hF, hnt, hi2', hVl, hi2, hlt]) ?_;rintro av X κ ⟨rfl, rfl, rfl⟩;simp (maxSteps := 1000000) [hF, hnt, hi2', hVl, hi2, hlt]
   repeat first|refine n1 ?_|((refine dr 8 0 [2, 9, 10, 11, 12, 13, 14] [2, 9, 10, 11, 12, 13, 14, 15, 16] [] [⟨0, 512, 9223372036854775808, 5⟩, ⟨0, 1024, 18446744073709551616, 5⟩, ⟨3, 27670116110564327424, 36893488147419103232, 5⟩, ⟨4, 36893488147419103232, 73786976294838206464, 5⟩, ⟨8, 73786976294838206464, 147573952589676412928, 6⟩, ⟨0, 512, 295147905179352825856, 5⟩, ⟨0, 1024, 590295810358705651712, 5⟩, ⟨96, 885443715538058477568, 1180591620717411303424, 5⟩, ⟨128, 1180591620717411303424, 2361183241434822606848, 5⟩, ⟨256, 2361183241434822606848, 4722366482869645213696, 6⟩, ⟨0, 4, 9444732965739290427392, 5⟩, ⟨1552, 14314673401198612054016, 18889465931478580854784, 0⟩, ⟨2048, 18889465931478580854784, 4611686018427387904, 5⟩, ⟨4096, 4611686018427387904, 37778931862957161709568, 5⟩, ⟨4096, 4611686018427387904, 75557863725914323419136, 5⟩, ⟨16383, 37778931862957161709568, 32768, 5⟩, ⟨65535, 75557863725914323419136, 65536, 5⟩] (.take 0 (.take 1 (.take 2 (.take 3 (.take 4 (.take 5 (.take 6 (.take 7 (.take 8 (.take 9 (.take 10 (.fork (.alt 11 (.take 12 (.take 13 (.take 14 (.take 15 (.take 16 (.done)))))) (.nil)))))))))))))) (.run [0, 1, 2, 3, 4, 5, 6, 7, 8, 9, 10, 11, 12, 13, 14, 15, 16] (.done)) ?_;simp only [drs]);simp (maxSteps := 1000000) [hF, hnt, hi2', hVl, hi2, hlt])
   by_cases hL : 300 < L.length
   ·have hLi : ¬ (L.length : Int) ≤ 300 := by omega
    have hLi2 : (300 : Int) < L.length := by omega
    refine (play_bad a b L ex (.inr hL)).go [] (by simp (maxSteps := 1000000) [hF, hL, hLi, hLi2]) ?_;rintro av X κ ⟨rfl, rfl, rfl⟩;simp (maxSteps := 1000000) [hF, hL, hLi, hLi2]
    repeat first|refine n1 ?_|refine n2 ?_|refine n4 ?_|refine n6 ?_|refine n7 ?_|refine n8 ?_|((first|refine rg 5 [2, 9, 10] [2, 9, 10] [] ?_|refine rg 9 [2, 9, 10, 11, 12, 13, 14, 15, 16] [2, 9, 10, 13, 14, 15, 16, 86] [(3, 80)] ?_|refine rg 11 [2, 9, 10, 13, 14, 15, 16] [2, 9, 10, 13, 15, 16, 93] [(2, 89)] ?_|refine rg 12 [2, 9, 10, 15, 16] [2, 9, 10, 100] [(3, 97)] ?_|refine nc ?_);simp (maxSteps := 1000000) [hF, hL, hLi, hLi2, hwi])
    refine nextK.of [2, 9, 10] [0] (m - 1) (by omega) (by simp [hF]) ?_
    exact ⟨i + 1, by omega, by simp⟩
   ·have hLi : (L.length : Int) ≤ 300 := by omega
    have hLi2 : ¬ (300 : Int) < L.length := by omega
    refine (play_ok a b hv.1 hv.2 L ex (by omega)).go [] (by simp (maxSteps := 1000000) [hF, hL, hLi, hLi2]) ?_;rintro av X κ ⟨rfl, rfl, rfl⟩;simp (maxSteps := 1000000) [hF, hL, hLi, hLi2]
    repeat first|refine n1 ?_|refine n2 ?_|refine n3 ?_|((first|refine rg 9 [2, 9, 10, 11, 12, 13, 14, 15, 16] [2, 9, 10, 13, 14, 15, 16, 86] [(3, 80)] ?_|refine rg 11 [2, 9, 10, 13, 14, 15, 16] [2, 9, 10, 13, 15, 16, 93] [(2, 89)] ?_|refine rg 14 [2, 9, 10, 13, 15, 16] [2, 9, 10, 13, 15, 109] [(2, 103)] ?_|refine rg 16 [2, 9, 10, 13, 15] [2, 9, 10, 13, 15, 17] [] ?_|refine nc ?_);simp (maxSteps := 1000000) [hF, hL, hLi, hLi2])
    refine VS.pick [2, 9, 10, 13, 15, 17] [0, 2, 3] (by simp [hF]) ?_;simp [hF]
    refine VS.rounds (fun m st => ∃ (k : Nat) (h : Hp), k + m = L.length ∧ h = heapP (bornOf a b) (L.take k) ∧ Fit k h ∧ st = ⟨[(2, .imm 4 (dIds L) ex), (9, .sub 0 [] 0 2 true), (10, avInt i), (13, .ptr 1 [.d]), (15, .sub 2 [] 0 L.length false), (17, avInt k)],
     [.sl true () 2 (dEns V), eHp h, .sl true () 1 (dInts (tolds (bornOf a b) L))], [], []⟩) ⟨L.length, 0, bornOf a b, by omega, by simp [heapP], fit_born hv.1 hv.2, by simp [eHp]⟩ ?_
    rintro m2 st ⟨k, h, hk, hh, hf, rfl⟩
    have hwk : IntKind.i64.wrap ((k : Int) + 1) = (k + 1 : Nat) := by rw [IntWalk.i64_in _ (by omega)]; rfl
    repeat first|refine n1 ?_|((first|refine rg 17 [2, 9, 10, 13, 15, 17] [2, 9, 10, 13, 15, 17, 113] [] ?_|refine nc ?_);simp (maxSteps := 1000000) [hF])
    refine ⟨fun hlt2 => ?_, fun hge2 => ?_⟩
    ·have hkl : k < L.length := by omega
     have hn1 := dIds_nth hkl
     have hxl : k < (tolds (bornOf a b) L).length := by rw [tolds_len]; exact hkl
     have hnx := dInts_nth hxl
     rw [tolds_at hkl, ← hh] at hnx
     have htk : L.take (k + 1) = L.take k ++ [L[k]] := by rw [List.take_add_one, List.getElem?_eq_getElem hkl]; rfl
     have hh' : pd h L[k] = heapP (bornOf a b) (L.take (k + 1)) := by rw [htk, heapP_app, ← hh]
     have hf' : Fit (k + 1) (pd h L[k]) := fit_doP hf _ _ _ _
     unfold pd at hh' hf'
     unfold pt at hnx
     repeat first|refine n1 ?_|refine n2 ?_|refine n3 ?_|((refine dr 19 0 [2, 9, 10, 13, 15, 17] [2, 9, 10, 13, 15, 17, 143] [] [⟨0, 32768, 83076749736557242056487941267521536, 5⟩, ⟨0, 131072, 166153499473114484112975882535043072, 5⟩, ⟨3, 249230249209671726169463823802564608, 332306998946228968225951765070086144, 5⟩, ⟨4, 332306998946228968225951765070086144, 664613997892457936451903530140172288, 6⟩, ⟨0, 8192, 1329227995784915872903807060280344576, 5⟩, ⟨0, 4, 2658455991569831745807614120560689152, 5⟩, ⟨0, 131072, 5316911983139663491615228241121378304, 5⟩, ⟨96, 7975367974709495237422842361682067456, 10633823966279326983230456482242756608, 5⟩, ⟨128, 10633823966279326983230456482242756608, 21267647932558653966460912964485513216, 5⟩, ⟨256, 21267647932558653966460912964485513216, 42535295865117307932921825928971026432, 6⟩, ⟨0, 4, 85070591730234615865843651857942052864, 5⟩, ⟨0, 131072, 170141183460469231731687303715884105728, 5⟩, ⟨3072, 255211775190703847597530955573826158592, 340282366920938463463374607431768211456, 5⟩, ⟨4096, 340282366920938463463374607431768211456, 680564733841876926926749214863536422912, 5⟩, ⟨8192, 680564733841876926926749214863536422912, 1361129467683753853853498429727072845824, 6⟩, ⟨0, 4, 2722258935367507707706996859454145691648, 5⟩, ⟨0, 131072, 5444517870735015415413993718908291383296, 5⟩, ⟨98304, 8166776806102523123120990578362437074944, 10889035741470030830827987437816582766592, 5⟩, ⟨131072, 10889035741470030830827987437816582766592, 21778071482940061661655974875633165533184, 5⟩, ⟨262144, 21778071482940061661655974875633165533184, 43556142965880123323311949751266331066368, 6⟩, ⟨0, 4, 87112285931760246646623899502532662132736, 5⟩, ⟨0, 131072, 174224571863520493293247799005065324265472, 5⟩, ⟨3145728, 261336857795280739939871698507597986398208, 348449143727040986586495598010130648530944, 5⟩, ⟨4194304, 348449143727040986586495598010130648530944, 696898287454081973172991196020261297061888, 5⟩, ⟨8388608, 696898287454081973172991196020261297061888, 1393796574908163946345982392040522594123776, 6⟩, ⟨17318400, 1438756382637592940831080762047444969062400, 2787593149816327892691964784081045188247552, 5⟩, ⟨33554448, 2787594479044323677607837687888105468592128, 5575186299632655785383929568162090376495104, 0⟩, ⟨67108872, 5575186964246653677841866020065620516667392, 11150372599265311570767859136324180752990208, 5⟩] (.take 0 (.take 1 (.take 2 (.take 4 (.take 5 (.take 6 (.take 7 (.take 8 (.take 9 (.take 10 (.take 11 (.take 12 (.take 13 (.take 14 (.take 15 (.take 16 (.take 17 (.take 18 (.take 19 (.take 20 (.take 21 (.take 22 (.take 23 (.take 24 (.take 25 (.fork (.alt 3 (.fork (.alt 26 (.take 27 (.done)) (.nil))) (.alt 26 (.take 3 (.take 27 (.done))) (.nil))))))))))))))))))))))))))))) (.run [0, 1, 2, 4, 5, 6, 7, 8, 9, 10, 11, 12, 13, 14, 15, 16, 17, 18, 19, 20, 21, 22, 23, 24, 25] (.both (.run [3, 26, 27] (.done)) (.run [26, 3, 27] (.done)))) ?_;simp only [drs]);simp (maxSteps := 1000000) [hF, hn1, hkl, hnx, hxl])
     all_goals (repeat' with_reducible refine And.intro ?_ ?_)
     all_goals (refine (edoes_ok h k hf (by omega) L[k].d L[k].a L[k].b L[k].c).go [(1, [])] (by simp (maxSteps := 1000000) [hF, eHp, hn1, hkl, hnx, hxl]) ?_;rintro av X κ ⟨rfl, rfl, rfl⟩;simp (maxSteps := 1000000) [hF, eHp, hn1, hkl, hnx, hxl])
     all_goals (repeat' with_reducible refine And.intro ?_ ?_)
     all_goals (repeat first|refine n2 ?_|refine n4 ?_|refine n5 ?_|refine n6 ?_|((first|refine rg 18 [2, 9, 10, 13, 15, 17] [2, 9, 10, 13, 15, 17] [] ?_|refine nc ?_);simp (maxSteps := 1000000) [hF, hwk, hnx, hxl, hkl]))
     all_goals (refine nextK.of [2, 9, 10, 13, 15, 17] [0, 1, 2] (m2 - 1) (by omega) (by simp [hF]) ?_)
     all_goals exact ⟨k + 1, _, by omega, hh', hf', by simp [eHp]⟩
    ·repeat first|refine n4 ?_|refine n5 ?_|refine n6 ?_|refine n7 ?_|(refine rg 5 [2, 9, 10] [2, 9, 10] [] ?_;simp (maxSteps := 1000000) [hF, hwi])
     refine nextK.of [2, 9, 10] [0] (m - 1) (by omega) (by simp [hF]) ?_
     exact ⟨i + 1, by omega, by simp⟩
  ·repeat first|refine n1 ?_|refine n2 ?_|refine n3 ?_|((refine dr 6 0 [2, 9, 10] [2, 9, 10, 11, 12] [] [⟨0, 512, 34359738368, 5⟩, ⟨0, 1024, 68719476736, 5⟩, ⟨3, 103079215104, 137438953472, 5⟩, ⟨4, 137438953472, 274877906944, 5⟩, ⟨8, 274877906944, 549755813888, 6⟩, ⟨0, 512, 1099511627776, 5⟩, ⟨0, 1024, 2199023255552, 5⟩, ⟨96, 3298534883328, 4398046511104, 5⟩, ⟨128, 4398046511104, 8796093022208, 5⟩, ⟨256, 8796093022208, 17592186044416, 6⟩, ⟨528, 18141941858304, 35184372088832, 0⟩, ⟨1024, 35184372088832, 17179869184, 5⟩, ⟨2048, 17179869184, 70368744177664, 5⟩, ⟨2048, 17179869184, 140737488355328, 5⟩, ⟨8191, 70368744177664, 2048, 5⟩, ⟨32767, 140737488355328, 4096, 5⟩] (.take 0 (.take 1 (.take 2 (.take 3 (.take 4 (.take 5 (.take 6 (.take 7 (.take 8 (.take 9 (.fork (.alt 10 (.take 11 (.take 12 (.take 13 (.take 14 (.take 15 (.done)))))) (.nil))))))))))))) (.run [0, 1, 2, 3, 4, 5, 6, 7, 8, 9, 10, 11, 12, 13, 14, 15] (.done)) ?_;simp only [drs]);simp (maxSteps := 1000000) [hF, hnt, hi2', hVl, hi2, hlt])
   refine (new_bad a b hv).go [] (by simp (maxSteps := 1000000) [hF, hnt, hi2', hVl, hi2, hlt]) ?_;rintro av X κ ⟨rfl, rfl, rfl⟩;simp (maxSteps := 1000000) [hF, hnt, hi2', hVl, hi2, hlt]
   repeat first|refine n1 ?_|((refine dr 7 0 [2, 9, 10, 11, 12] [2, 9, 10, 11, 12, 13, 14] [] [⟨0, 512, 562949953421312, 5⟩, ⟨0, 1024, 1125899906842624, 5⟩, ⟨3, 1688849860263936, 2251799813685248, 5⟩, ⟨4, 2251799813685248, 4503599627370496, 5⟩, ⟨8, 4503599627370496, 9007199254740992, 6⟩, ⟨0, 512, 18014398509481984, 5⟩, ⟨0, 1024, 36028797018963968, 5⟩, ⟨96, 54043195528445952, 72057594037927936, 5⟩, ⟨128, 72057594037927936, 144115188075855872, 5⟩, ⟨256, 144115188075855872, 288230376151711744, 6⟩, ⟨528, 297237575406452736, 576460752303423488, 0⟩, ⟨1024, 576460752303423488, 281474976710656, 5⟩, ⟨2048, 281474976710656, 1152921504606846976, 5⟩, ⟨2048, 281474976710656, 2305843009213693952, 5⟩, ⟨8191, 1152921504606846976, 8192, 5⟩, ⟨32767, 2305843009213693952, 16384, 5⟩] (.take 0 (.take 1 (.take 2 (.take 3 (.take 4 (.take 5 (.take 6 (.take 7 (.take 8 (.take 9 (.fork (.alt 10 (.take 11 (.take 12 (.take 13 (.take 14 (.take 15 (.done)))))) (.nil))))))))))))) (.run [0, 1, 2, 3, 4, 5, 6, 7, 8, 9, 10, 11, 12, 13, 14, 15] (.done)) ?_;simp only [drs]);simp (maxSteps := 1000000) [hF, hnt, hi2', hVl, hi2, hlt])
   refine (enew_bad a b hv).go [] (by simp (maxSteps := 1000000) [hF, hnt, hi2', hVl, hi2, hlt]) ?_;rintro av X κ ⟨rfl, rfl, rfl⟩;simp (maxSteps := 1000000) [hF, hnt, hi2', hVl, hi2, hlt]
   repeat first|refine n1 ?_|((refine dr 8 0 [2, 9, 10, 11, 12, 13, 14] [2, 9, 10, 11, 12, 13, 14, 15, 16] [] [⟨0, 512, 9223372036854775808, 5⟩, ⟨0, 1024, 18446744073709551616, 5⟩, ⟨3, 27670116110564327424, 36893488147419103232, 5⟩, ⟨4, 36893488147419103232, 73786976294838206464, 5⟩, ⟨8, 73786976294838206464, 147573952589676412928, 6⟩, ⟨0, 512, 295147905179352825856, 5⟩, ⟨0, 1024, 590295810358705651712, 5⟩, ⟨96, 885443715538058477568, 1180591620717411303424, 5⟩, ⟨128, 1180591620717411303424, 2361183241434822606848, 5⟩, ⟨256, 2361183241434822606848, 4722366482869645213696, 6⟩, ⟨0, 4, 9444732965739290427392, 5⟩, ⟨1552, 14314673401198612054016, 18889465931478580854784, 0⟩, ⟨2048, 18889465931478580854784, 4611686018427387904, 5⟩, ⟨4096, 4611686018427387904, 37778931862957161709568, 5⟩, ⟨4096, 4611686018427387904, 75557863725914323419136, 5⟩, ⟨16383, 37778931862957161709568, 32768, 5⟩, ⟨65535, 75557863725914323419136, 65536, 5⟩] (.take 0 (.take 1 (.take 2 (.take 3 (.take 4 (.take 5 (.take 6 (.take 7 (.take 8 (.take 9 (.take 10 (.fork (.alt 11 (.take 12 (.take 13 (.take 14 (.take 15 (.take 16 (.done)))))) (.nil)))))))))))))) (.run [0, 1, 2, 3, 4, 5, 6, 7, 8, 9, 10, 11, 12, 13, 14, 15, 16] (.done)) ?_;simp only [drs]);simp (maxSteps := 1000000) [hF, hnt, hi2', hVl, hi2, hlt])
   refine (play_bad a b L ex (.inl hv)).go [] (by simp (maxSteps := 1000000) [hF]) ?_;rintro av X κ ⟨rfl, rfl, rfl⟩;simp (maxSteps := 1000000) [hF]
   repeat first|refine n1 ?_|refine n2 ?_|refine n4 ?_|refine n6 ?_|refine n7 ?_|refine n8 ?_|((first|refine rg 5 [2, 9, 10] [2, 9, 10] [] ?_|refine rg 9 [2, 9, 10, 11, 12, 13, 14, 15, 16] [2, 9, 10, 13, 14, 15, 16, 86] [(3, 80)] ?_|refine rg 11 [2, 9, 10, 13, 14, 15, 16] [2, 9, 10, 13, 15, 16, 93] [(2, 89)] ?_|refine rg 12 [2, 9, 10, 15, 16] [2, 9, 10, 100] [(3, 97)] ?_|refine nc ?_);simp (maxSteps := 1000000) [hF, hwi])
   refine nextK.of [2, 9, 10] [0] (m - 1) (by omega) (by simp [hF]) ?_
   exact ⟨i + 1, by omega, by simp⟩
 ·repeat first|refine n1 ?_|refine n7 ?_|(refine rg 21 [] [6] [] ?_;simp (maxSteps := 1000000) [hF])
  refine (sane_ok).go [] (by simp (maxSteps := 1000000) [hF]) ?_;rintro av X κ ⟨rfl, rfl, rfl⟩;simp (maxSteps := 1000000) [hF]
  (try refine nr ?_);(repeat first|refine nb_ ?_|refine nl_ ?_);refine endK.o [6] [] [] ?_;simp [hF, retK, covers, mpre]
end Go.Proofs.Ytfdcfjjobdnofaa

/- Proved: HeapTells returns true for every input, and its arguments read behind the call as before. No condition. -/
namespace Go.Proofs.Ytfdcfjjobdnofaa.heapTells
set_option linter.all false
open Go.Vc Go.ChangeShapes Go.WideShapes Go.ChangeAt Go.RowKit
set_option linter.unusedVariables false

theorem own : ownKnob Try.prog.godebug = none := by kernel_rfl
theorem laid : laidOutB Try.prog = true := by kernel_rfl

set_option maxRecDepth 100000 in
theorem lifted (os : Os) (started : os.Started) (H : Type) (enc : TypeId × Value → H) :
    ReturnsInHanded {} Try.checked os 8 .any (Rows.heapTellsSpec.pre6 enc Try.prog Try.f8 Rows.heapTellsRow.domain false) (Rows.heapTellsSpec.post enc Try.prog Try.f8 false true false false) := by
  refine returnsInHanded_of_change (C := Try.checked) own started (by kernel_rfl) Try.func8
    (ChangeSpec.witness6 (enc := enc) (C := Try.checked) false ⟨#[], #[.int .i64 0, .int .i64 0, .slice none 0 0], []⟩ 8 (by kernel_rfl) (by kernel_rfl) (by kernel_rfl) (by kernel_rfl)) ?_
  intro W base args ds gs before hval0 hW hcnd _
  have hval : ∀ (j : Nat) t v, Try.f8.params[j]? = some t → args[j]? = some v → Value.okWide Try.prog W .any base t v := hval0
  have hW' := hW
  obtain ⟨p, q, hA0, hV, rfl, hfz, hnd⟩ := hW
  have hA : DataW.TrodAll enc Try.prog W 0 (fun _ => true) true Try.f8.params.toList args.toList ds p := hA0
  rw [Try.params8] at hA hval
  obtain ⟨v0, vs0, d0, ds0, p0, q0, hargs0, rfl, rfl, h0, r0⟩ := trodAll_cons hA
  obtain ⟨v1, vs1, d1, ds1, p1, q1, hargs1, rfl, rfl, h1, r1⟩ := trodAll_cons r0
  obtain ⟨v2, vs2, d2, ds2, p2, q2, hargs2, rfl, rfl, h2, r2⟩ := trodAll_cons r1
  obtain ⟨rfl, rfl, rfl⟩ := trodAll_nil r2
  subst hargs2
  subst hargs1
  obtain rfl : args = #[v0, v1, v2] := by cases args; simp_all
  obtain ⟨rfl, rfl⟩ := trodVars_none hV
  obtain ⟨a0, hr0⟩ := int_of (hval 0 3 v0 rfl rfl) h0
  obtain ⟨a1, hr1⟩ := int_of (hval 1 3 v1 rfl rfl) h1
  obtain ⟨a2, hlen2, hr2⟩ := ideeds_of (hval 2 51 v2 rfl rfl) h2
  clear hA0 hval0
  have hwalk : Calls Try.prog 8 #[v0, v1, v2] W fun e w' => e = .returned (.bool true) ∧ Below W.heap.size W w' :=
    Meets.law (htells_ok a0 a1 a2 false) (vs := [v0, v1, v2]) (I := allB W) (fun _ h => h) ⟨v0, _, rfl, hr0, ⟨v1, _, rfl, hr1, ⟨v2, _, rfl, hr2, rfl⟩⟩⟩
  refine hwalk.mono fun e W' ⟨he, bel⟩ => ?_
  subst he
  exact ⟨_, rfl, _, _, _, [], _, [], hW', trodAll_mk1 (shut_bool Try.underlying4 _), (trodAll_cons_mk (Below.trod laid (by kernel_rfl) (of_decide_eq_true (by kernel_rfl)) h0 bel fun x hx => hW'.lt x (by simp [hx])) (trodAll_cons_mk (Below.trod laid (by kernel_rfl) (of_decide_eq_true (by kernel_rfl)) h1 bel fun x hx => hW'.lt x (by simp [hx])) (trodAll_cons_mk (Below.trod laid (by kernel_rfl) (of_decide_eq_true (by kernel_rfl)) h2 bel fun x hx => hW'.lt x (by simp [hx])) trodAll_mk0))), rfl, bel.frame _, fun h => by cases h⟩

theorem over : Rows.heapTellsRow.holds Try.pinned (OpenSpec.ofChange Rows.heapTellsSpec) :=
  OpenClaim.holds_of_wide 8 Try.f8 rfl rfl rfl rfl rfl rfl rfl ⟨rfl, rfl, rfl, rfl, rfl⟩ rfl rfl rfl rfl rfl (by kernel_rfl) Try.func8 (by kernel_rfl)
    (of_decide_eq_true (by kernel_rfl)) (by unfold Func.isWrapper; first | (rw [if_pos (by decide +kernel)]; kernel_rfl) | (rw [if_neg (by decide +kernel)]; exact ⟨rfl, rfl⟩))
    (fun os started H enc _ => lifted os started H enc)

/-- THE STATEMENT -/
theorem proved : Rows.HeapTellsSaid :=
  over
end Go.Proofs.Ytfdcfjjobdnofaa.heapTells
