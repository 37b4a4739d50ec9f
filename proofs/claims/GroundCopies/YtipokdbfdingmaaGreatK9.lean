/- The law's own functions: both tell the same of all. -/
import Derived.Test.YtipokdbfdingmaaGreatK7
import Derived.Test.YtipokdbfdingmaaGreatK8
import Derived.Test.YtipokdbfdingmaaGreatRows
import Derived.WalkKit
import Derived.ProofKit
import Derived.OpenShut
import Derived.ShutString
import Derived.ChangeOld
import Derived.Carry
namespace Go.Proofs.YtipokdbfdingmaaGreat
set_option linter.all false
open Go.Vc Go.Proofs
set_option linter.unusedSimpArgs false
set_option linter.unusedVariables false
set_option maxRecDepth 100000
set_option maxHeartbeats 4000000
attribute [local irreducible] CallW EqK
theorem alike_i {n : Nat} (g : Gb) (f : Fb n g) (hn : n ≤ 1000000) : Meets Tryz.prog 6 [dBk g] (.cons (.ptr 0 [.d]) (.cons (avE g) .nil)) fun av X κ => av = avBool true ∧ X = [dBk g] ∧ κ = [] := by
 have b := f.bk
 have hul := b.len
 have hml := movedOf_len b
 refine fb Tryz.func6 Tryz.ntmps6 [.tmp 4] fun w0 I0 F0 hF => ?_
 repeat first|refine n1 ?_|refine n3 ?_|((first|refine rg 0 [0, 1] [0, 1] [] ?_|refine rg 1 [0, 1] [0, 1, 5] [] ?_);simp (maxSteps := 1000000) [hF])
 refine VS.rounds (fun m st => ∃ (i : Nat), i + m = g.units.length + 2 ∧ st = ⟨[(0, .ptr 0 [.d]), (1, avE g), (5, avInt ((i : Int) - 1))], [dBk g], [], []⟩) ⟨g.units.length + 2, 0, by omega, by simp [dBk]⟩ ?_
 rintro m st ⟨i, hi, rfl⟩
 repeat first|refine n1 ?_|((first|refine rg 2 [0, 1, 5] [0, 1, 5, 13] [] ?_|refine nc ?_);simp (maxSteps := 1000000) [hF, eBb])
 refine ⟨fun hlt => ?_, fun hge => ?_⟩
 ·have hw1 : IntKind.i64.wrap (i : Int) = i := IntWalk.i64_in _ (by omega)
  repeat first|refine n1 ?_|refine n2 ?_|refine n3 ?_|(refine rg 4 [0, 1, 5] [0, 1, 5, 20] [] ?_;simp (maxSteps := 1000000) [hF])
  refine (unit_i g f ((i : Int) - 1)).go [(0, [])] (by simp (maxSteps := 1000000) [hF, dBk]) ?_;rintro av X κ ⟨rfl, rfl, rfl⟩;simp (maxSteps := 1000000) [hF, dBk]
  repeat first|refine n2 ?_|refine n4 ?_|refine n5 ?_|refine n6 ?_|((first|refine rg 3 [0, 1, 5] [0, 1, 5] [] ?_|refine nc ?_);simp (maxSteps := 1000000) [hF, hw1])
  refine nextK.of [0, 1, 5] [0] (m - 1) (by omega) (by simp [hF]) ?_
  exact ⟨i + 1, by omega, by simp [dBk]⟩
 ·repeat first|refine n1 ?_|refine n3 ?_|refine n7 ?_|(refine rg 6 [0, 1] [0, 1, 6] [] ?_;simp (maxSteps := 1000000) [hF])
  refine VS.rounds (fun m2 st => ∃ (k : Nat), k + m2 = 5 ∧ st = ⟨[(0, .ptr 0 [.d]), (1, avE g), (6, avInt k)], [dBk g], [], []⟩) ⟨5, 0, by omega, by simp [dBk, eBb]⟩ ?_
  rintro m2 st ⟨k, hk, rfl⟩
  repeat first|refine n1 ?_|((first|refine rg 7 [0, 1, 6] [0, 1, 6, 22] [] ?_|refine nc ?_);simp (maxSteps := 1000000) [hF])
  refine ⟨fun hk5 => ?_, fun hk5 => ?_⟩
  ·have hw2 : IntKind.i64.wrap ((k : Int) + 1) = (k + 1 : Nat) := by rw [IntWalk.i64_in _ (by omega)]; rfl
   repeat first|refine n1 ?_|refine n2 ?_|refine n3 ?_|(refine rg 9 [0, 1, 6] [0, 1, 6, 30] [] ?_;simp (maxSteps := 1000000) [hF])
   refine (key_ok k ⟨#[]⟩).go [] (by simp (maxSteps := 1000000) [hF]) ?_;rintro av X κ ⟨rfl, rfl, rfl⟩;simp (maxSteps := 1000000) [hF]
   refine (grounds_i g f hn (keyOf k ⟨#[]⟩)).go [(0, [])] (by simp (maxSteps := 1000000) [hF, dBk]) ?_;rintro av X κ ⟨rfl, rfl, rfl⟩;simp (maxSteps := 1000000) [hF, dBk]
   repeat first|refine n2 ?_|refine n4 ?_|refine n5 ?_|refine n6 ?_|((first|refine rg 8 [0, 1, 6] [0, 1, 6] [] ?_|refine nc ?_);simp (maxSteps := 1000000) [hF, hw2])
   refine nextK.of [0, 1, 6] [0] (m2 - 1) (by omega) (by simp [hF]) ?_
   exact ⟨k + 1, by omega, by simp [dBk]⟩
  ·repeat first|refine n1 ?_|refine n7 ?_|(refine rg 11 [0, 1] [4] [] ?_;simp (maxSteps := 1000000) [hF])
   refine (moves_c g f hn).go [(0, [])] (by simp (maxSteps := 1000000) [hF, dBk]) ?_;rintro av X κ ⟨rfl, rfl, rfl⟩;simp (maxSteps := 1000000) [hF, dBk]
   refine (emoves_ok g b hn).go [] (by simp (maxSteps := 1000000) [hF, dBk]) ?_;rintro av X κ ⟨rfl, rfl, rfl⟩;simp (maxSteps := 1000000) [hF, dBk]
   refine (texts_c (movedOf g) false false (by omega)).go [(1, []), (2, [])] (by simp (maxSteps := 1000000) [hF, dBk]) ?_;rintro av X κ ⟨rfl, rfl, rfl⟩;simp (maxSteps := 1000000) [hF, dBk]
   (try refine nr ?_);(repeat first|refine nb_ ?_|refine nl_ ?_);refine endK.o [4] [0] [] ?_;simp [hF, retK, covers, mpre, dBk]
theorem alike_c {n : Nat} (g : Gb) (f : Fb n g) (hn : n ≤ 1000000) : Meets Tryz.prog 6 [eBk g, dBk g] (.cons (.ptr 1 [.d]) (.cons (.ptr 0 [.d]) .nil)) fun av X κ => av = avBool true ∧ X = [eBk g, dBk g] ∧ κ = [] := by
 have e : (AV.cons (.ptr 1 [.d]) (.cons (.ptr 0 [.d]) .nil)).chilled (eBk g) = .cons (.ptr 0 [.d]) (.cons (avE g) .nil) := by rw [AV.chilled, chillE]; rfl
 refine Meets.mono (Meets.warm (d0 := eBk g) (Y := [dBk g]) (by rw [e]; exact alike_i g f hn) ?_) ?_
 ·rintro av X κ ⟨rfl, rfl, rfl⟩; exact ⟨rfl, by simp, rfl⟩
 ·rintro av X κ ⟨av0, X0, ⟨rfl, rfl, _⟩, rfl, rfl, rfl⟩; exact ⟨rfl, rfl, rfl⟩
theorem copy_p {n : Nat} (g : Gb) (b : Bk n g) : MeetsP Tryz.prog 8 [.sl true () 3 (dUns true g.units), dBj g] [(1, [.d, .f 0], .sub 0 [] 0 g.units.length false)] (.cons (.ptr 1 [.d]) .nil)
  fun av X κ => av = .ptr 2 [.d] ∧ X = [.sl true () 3 (dUns true g.units), dBj g, dBk g] ∧ κ = [] := by
 refine MeetsP.mono (MeetsP.warmK (pl0 := [(0, [.d, .f 0], .imm 3 (dUns false g.units) false)]) (d0 := .sl true () 3 (dUns true g.units)) (copy_i g b) ?_ ?_) ?_
 ·intro e he
  simp only [List.mem_singleton] at he
  subst he
  exact ⟨.sub 0 [] 0 g.units.length false, by simp, by simp [AV.chilled, freeze_uns]⟩
 ·rintro av X κ ⟨rfl, rfl, rfl⟩
  exact ⟨rfl, by simp⟩
 ·rintro av X κ ⟨_, _, _, ⟨rfl, rfl, rfl⟩, rfl, rfl, rfl⟩
  exact ⟨rfl, rfl, rfl⟩
theorem ecopy_i {n : Nat} (g : Gb) (b : Bk n g) (hn : n ≤ 1000000) : Meets Tryz.prog 9 [] (.cons (avE g) .nil)
  fun av X κ => av = .ptr 0 [.d] ∧ X = [eBk g] ∧ κ = [] := by
 have hul := b.len
 have hml := movedOf_len b
 have c1 : (movedOf g).length * 16 ≤ 140737488355328 := by omega
 have c2 : (movedOf g).length ≤ 9223372036854775807 := by omega
 have c3 : (movedOf g).length * 8 ≤ 140737488355328 := by omega
 have m1 := strs_mid_all (movedOf g)
 have m2 : (dInts (serials g)).mid 0 (movedOf g).length = dInts (serials g) := by have := dInts_mid (serials g); rwa [serials_len] at this
 refine fb Tryz.func9 Tryz.ntmps9 [.tmp 2] fun w0 I0 F0 hF => ?_
 repeat first|refine n1 ?_|refine n2 ?_|refine n3 ?_|((first|refine rg 0 [0] [0] [] ?_|refine rg 1 [0] [0, 14] [(2, 8)] ?_|(refine dr 3 2080 [0] [0, 3] [] [⟨0, 0, 32768, 4⟩, ⟨0, 1, 65536, 5⟩, ⟨2, 65536, 131072, 5⟩, ⟨4, 131072, 262144, 5⟩, ⟨8, 262144, 524288, 6⟩, ⟨17, 557056, 1048576, 0⟩, ⟨0, 0, 2097152, 4⟩, ⟨0, 1, 4194304, 5⟩, ⟨128, 4194304, 8388608, 5⟩, ⟨256, 8388608, 16777216, 5⟩, ⟨512, 16777216, 33554432, 6⟩, ⟨1120, 35651584, 67108864, 0⟩, ⟨2080, 68157440, 134217728, 5⟩, ⟨4096, 134217728, 268435456, 4⟩, ⟨16383, 268435456, 8, 5⟩] (.take 1 (.take 2 (.take 3 (.take 4 (.take 7 (.take 8 (.take 9 (.take 10 (.fork (.alt 0 (.fork (.alt 5 (.fork (.alt 6 (.fork (.alt 11 (.take 12 (.fork (.alt 13 (.take 14 (.done)) (.nil)))) (.nil))) (.nil))) (.alt 6 (.fork (.alt 5 (.fork (.alt 11 (.take 12 (.fork (.alt 13 (.take 14 (.done)) (.nil)))) (.nil))) (.nil))) (.nil)))) (.alt 6 (.fork (.alt 0 (.fork (.alt 5 (.fork (.alt 11 (.take 12 (.fork (.alt 13 (.take 14 (.done)) (.nil)))) (.nil))) (.nil))) (.nil))) (.nil)))))))))))) (.run [1, 2, 3, 4, 7, 8, 9, 10] (.both (.run [0] (.both (.chk 5 (.run [5, 6] (.chk 11 (.run [11, 12, 13, 14] (.done))))) (.run [6] (.chk 5 (.run [5] (.chk 11 (.run [11, 12, 13, 14] (.done)))))))) (.run [6, 0] (.chk 5 (.run [5] (.chk 11 (.run [11, 12, 13, 14] (.done)))))))) ?_;simp only [drs])|refine rg 4 [0, 3] [0, 3, 4] [] ?_|refine nc ?_);simp (maxSteps := 1000000) [hF, eBb, c1, c2, c3, m1, m2])
 (repeat' with_reducible refine And.intro ?_ ?_)
 refine VS.pick [0, 3, 4] [2] (by simp [hF]) ?_;simp [hF]
 refine VS.rounds (fun m st => ∃ (i : Nat) (P : List Un), i + m = g.units.length ∧ P = g.units.take i ∧ st = ⟨[(0, avE g), (3, .ptr 0 [.d]), (4, avInt i)], [eBx P (movedOf g) (serials g)], [], []⟩) ⟨g.units.length, 0, [], by omega, by simp, by simp [eBx, eBb]⟩ ?_
 rintro m st ⟨i, P, hi, hP, rfl⟩
 have hPl : P.length = i := by rw [hP, List.length_take]; omega
 repeat first|refine n1 ?_|((first|refine rg 5 [0, 3, 4] [0, 3, 4, 35] [] ?_|refine nc ?_);simp (maxSteps := 1000000) [hF, eBb])
 refine ⟨fun hlt => ?_, fun hge => ?_⟩
 ·have hn1 := dUns_nth (o := false) hlt
  have hii : (i : Int) < g.units.length := by omega
  have hkl := (b.asc _ (List.getElem_mem hlt)).2
  have hil := b.inLen i
  rw [innOf_at hlt] at hil
  have hw : IntKind.i64.wrap ((i : Int) + 1) = (i + 1 : Nat) := by rw [IntWalk.i64_in _ (by omega)]; rfl
  have hst : P ++ [(⟨g.units[i].up, g.units[i].keys, g.units[i].inn⟩ : Un)] = g.units.take (i + 1) := by rw [hP, take_succ_at hlt]
  have hp := dUns_push true P g.units[i].up g.units[i].keys g.units[i].inn
  have hm1 := dUns_mid1 true P ⟨g.units[i].up, g.units[i].keys, g.units[i].inn⟩
  have hm0 := dUns_mid_all true P
  have k1 := strs_mid_all g.units[i].keys
  have k2 := nats_mid g.units[i].inn
  have d1 : (P.length + 1) * 56 ≤ 140737488355328 := by omega
  have d2 : P.length ≤ 9223372036854775806 := by omega
  have d3 : g.units[i].keys.length * 16 ≤ 140737488355328 := by omega
  have d4 : g.units[i].keys.length ≤ 9223372036854775807 := by omega
  have d5 : g.units[i].inn.length * 8 ≤ 140737488355328 := by omega
  have d6 : g.units[i].inn.length ≤ 9223372036854775807 := by omega
  repeat first|refine n1 ?_|refine n2 ?_|refine n3 ?_|(refine rg 7 [0, 3, 4] [0, 3, 4, 5] [] ?_;simp (maxSteps := 1000000) [hF, eBb, hn1, hlt, hii])
  refine ghostL 0 [.d, .f 1] ?_;simp (maxSteps := 1000000) [hF, St.lift, AV.lift, liftPl, stripP, nodeAV, isNode, eBx]
  repeat first|refine n4 ?_|refine n5 ?_|refine n6 ?_|((first|refine rg 6 [0, 3, 4] [0, 3, 4] [] ?_|(refine dr 8 17408 [0, 3, 4, 5] [0, 3, 4] [] [⟨0, 8, 35184372088832, 5⟩, ⟨0, 8, 70368744177664, 5⟩, ⟨2, 70368744177664, 140737488355328, 5⟩, ⟨4, 140737488355328, 281474976710656, 5⟩, ⟨8, 281474976710656, 562949953421312, 6⟩, ⟨0, 32, 1125899906842624, 5⟩, ⟨32, 1125899906842624, 2251799813685248, 6⟩, ⟨0, 0, 4503599627370496, 4⟩, ⟨0, 32, 9007199254740992, 5⟩, ⟨256, 9007199254740992, 18014398509481984, 6⟩, ⟨640, 22517998136852480, 36028797018963968, 0⟩, ⟨0, 0, 72057594037927936, 4⟩, ⟨0, 32, 144115188075855872, 5⟩, ⟨4096, 144115188075855872, 288230376151711744, 6⟩, ⟨11264, 360287970189639680, 576460752303423488, 0⟩, ⟨17472, 614741349136072704, 1152921504606846976, 5⟩, ⟨32768, 1152921504606846976, 2305843009213693952, 4⟩, ⟨81936, 2306405959167115264, 4611686018427387904, 0⟩, ⟨262143, 35184372088832, 9223372036854775808, 5⟩, ⟨524287, 9223372036854775808, 18446744073709551616, 5⟩, ⟨786431, 23058430092136939520, 0, 0⟩] (.take 0 (.take 1 (.take 2 (.take 3 (.take 4 (.take 5 (.take 6 (.take 8 (.take 9 (.take 12 (.take 13 (.fork (.alt 7 (.fork (.alt 10 (.fork (.alt 11 (.fork (.alt 14 (.take 15 (.fork (.alt 16 (.fork (.alt 17 (.take 18 (.take 19 (.fork (.alt 20 (.done) (.nil))))) (.nil))) (.nil)))) (.nil))) (.nil))) (.alt 11 (.fork (.alt 10 (.fork (.alt 14 (.take 15 (.fork (.alt 16 (.fork (.alt 17 (.take 18 (.take 19 (.fork (.alt 20 (.done) (.nil))))) (.nil))) (.nil)))) (.nil))) (.nil))) (.nil)))) (.alt 11 (.fork (.alt 7 (.fork (.alt 10 (.fork (.alt 14 (.take 15 (.fork (.alt 16 (.fork (.alt 17 (.take 18 (.take 19 (.fork (.alt 20 (.done) (.nil))))) (.nil))) (.nil)))) (.nil))) (.nil))) (.nil))) (.nil))))))))))))))) (.run [0, 1, 2, 3, 4, 5, 6, 8, 9, 12, 13] (.both (.run [7] (.both (.chk 10 (.run [10, 11] (.chk 14 (.run [14, 15, 16, 17, 18, 19, 20] (.done))))) (.run [11] (.chk 10 (.run [10] (.chk 14 (.run [14, 15, 16, 17, 18, 19, 20] (.done)))))))) (.run [11, 7] (.chk 10 (.run [10] (.chk 14 (.run [14, 15, 16, 17, 18, 19, 20] (.done)))))))) ?_;simp only [drs]));simp (maxSteps := 1000000) [hF, hp, hm1, hm0, k1, k2, d1, d2, d3, d4, d5, d6, hw])
  (repeat' with_reducible refine And.intro ?_ ?_)
  all_goals (refine nextK.of [0, 3, 4] [0] (m - 1) (by omega) (by simp [hF]) ?_)
  all_goals exact ⟨i + 1, _, by omega, hst, by simp [eBx]⟩
 ·have hPe : P = g.units := by rw [hP, List.take_of_length_le (by omega)]
  repeat first|refine n1 ?_|refine n7 ?_|(refine rg 9 [3] [2] [] ?_;simp (maxSteps := 1000000) [hF])
  (try refine nr ?_);(repeat first|refine nb_ ?_|refine nl_ ?_);refine endK.o [2] [0] [] ?_;simp [hF, retK, covers, mpre, hPe, eBk, eBb, eBx]
theorem ecopy_c {n : Nat} (g : Gb) (b : Bk n g) (hn : n ≤ 1000000) : Meets Tryz.prog 9 [eBk g] (.cons (.ptr 0 [.d]) .nil) fun av X κ => av = .ptr 1 [.d] ∧ X = [eBk g, eBk g] ∧ κ = [] :=
 warmE (ecopy_i g b hn) rfl rfl (by simp) rfl
theorem copies_ok (L M : List Ld) (ex ex2 : Bool) : Meets Tryz.prog 4 [] (.cons (.imm 6 (dLds L) ex) (.cons (.imm 6 (dLds M) ex2) .nil)) fun av X κ => av = .val (.bool true) := by
 have f0 := fb_played L
 have hpl := played_ok L ex
 generalize playedOf L = g at *
 have b0 := f0.bk
 refine fb Tryz.func4 Tryz.ntmps4 [.tmp 4] fun w0 I0 F0 hF => ?_
 repeat first|refine n1 ?_|((first|refine rg 0 [0, 1] [0, 1] [] ?_|refine rg 1 [0, 1] [1, 5, 6, 7] [] ?_);simp (maxSteps := 1000000) [hF])
 refine (hpl).go [] (by simp (maxSteps := 1000000) [hF]) ?_;rintro av X κ ⟨rfl, rfl, rfl⟩;simp (maxSteps := 1000000) [hF]
 repeat first|refine n1 ?_|refine n2 ?_|((first|refine rg 2 [1, 5, 6, 7] [1, 5, 6, 18] [] ?_|refine nc ?_);simp (maxSteps := 1000000) [hF])
 refine ghostL 0 [.d, .f 0] ?_;simp (maxSteps := 1000000) [hF, St.lift, AV.lift, liftPl, stripP, nodeAV, isNode, dBk]
 repeat first|(refine rg 4 [1, 5, 6] [1, 5, 6, 8] [] ?_;simp (maxSteps := 1000000) [hF])
 refine (copy_p g b0).goP [(2, []), (0, [])] (by simp (maxSteps := 1000000) [hF, plsOk, dBj]) ?_;rintro av X κ ⟨rfl, rfl, rfl⟩;simp (maxSteps := 1000000) [hF, dBj]
 repeat first|refine n1 ?_
 refine VS.settle 0 [.d, .f 0] (.sub 2 [] 0 g.units.length false) (by simp) (by simp) (by simp [hF, Tk.tree]) (by simp [hF, Tk.tree]) ?_
 simp [hF, St.settle, Tk.tree]
 repeat first|(refine rg 5 [1, 5, 6, 8] [1, 5, 6, 8, 9] [] ?_;simp (maxSteps := 1000000) [hF, dBk])
 refine (ecopy_c g b0 (by omega)).go [(1, [])] (by simp (maxSteps := 1000000) [hF, eBk]) ?_;rintro av X κ ⟨rfl, rfl, rfl⟩;simp (maxSteps := 1000000) [hF, eBk]
 repeat first|refine n1 ?_|refine n2 ?_|refine n3 ?_|((first|refine rg 6 [1, 5, 6, 8, 9] [1, 5, 6, 8, 9, 24] [] ?_|refine rg 8 [1, 5, 6, 8, 9] [1, 5, 6, 8, 9, 10] [] ?_|refine nc ?_);simp (maxSteps := 1000000) [hF])
 refine VS.pick [1, 5, 6, 8, 9, 10] [0, 1, 3, 4] (by simp [hF]) ?_;simp [hF]
 refine VS.rounds (fun m st => ∃ (i : Nat) (h : Gb), i + m = M.length ∧ i ≤ 80 ∧ Fb (80 + i) h ∧ st = ⟨[(1, .imm 6 (dLds M) ex2), (5, .ptr 0 [.d]), (6, .ptr 1 [.d]), (8, .ptr 2 [.d]), (9, .ptr 3 [.d]), (10, avInt i)], [dBk g, eBk g, dBk h, eBk h], [], []⟩) ⟨M.length, 0, g, by omega, by omega, f0, by simp [dBk, eBk]⟩ ?_
 rintro m st ⟨i, h, hi, hi8, f, rfl⟩
 have hw : IntKind.i64.wrap ((i : Int) + 1) = (i + 1 : Nat) := by rw [IntWalk.i64_in _ (by omega)]; rfl
 apply merged
 ·intro key
  repeat first|refine n1 ?_|(refine rg 9 [1, 5, 6, 8, 9, 10] [1, 5, 6, 8, 9, 10, 32] [(4, 29)] ?_;simp (maxSteps := 1000000) [hF])
  refine ⟨fun hlt => ?_, fun hge => ?_⟩
  ·repeat first|(refine nc ?_;simp (maxSteps := 1000000) [hF])
   refine ⟨fun h90 => ?_, fun h90 => ?_⟩
   ·have hlt' : i < M.length := by omega
    have hn1 := dLds_nth hlt'
    repeat first|refine n1 ?_|refine n2 ?_|refine n3 ?_|(refine rg 11 [1, 5, 6, 8, 9, 10] [1, 5, 6, 8, 9, 10, 42] [] ?_;simp (maxSteps := 1000000) [hF, hn1, hlt'])
    refine (does_ok f (by omega) M[i]).go [(2, []), (3, [])] (by simp (maxSteps := 1000000) [hF, avLd, dBk, eBk]) ?_;rintro av X κ ⟨rfl, rfl, rfl⟩;simp (maxSteps := 1000000) [hF, avLd, dBk, eBk]
    repeat first|refine n2 ?_|refine n4 ?_|refine n5 ?_|refine n6 ?_|((first|refine rg 10 [1, 5, 6, 8, 9, 10] [1, 5, 6, 8, 9, 10] [] ?_|refine nc ?_);simp (maxSteps := 1000000) [hF, hw])
    refine nextK.of [1, 5, 6, 8, 9, 10] [0, 1, 2, 3] (m - 1) (by omega) (by simp [hF]) ?_
    exact ⟨i + 1, (doG h (toG M[i])).1, by omega, by omega, fb_do f (toG M[i]), by simp [dBk, eBk]⟩
   ·repeat first|refine n1 ?_|refine n7 ?_
    refine VS.pick [5, 6, 8, 9] [0, 1, 2, 3] (by simp [hF]) ?_;simp [hF]
    exact key ()
  ·repeat first|refine n1 ?_|refine n7 ?_|(refine nc ?_;simp (maxSteps := 1000000) [hF])
   refine VS.pick [5, 6, 8, 9] [0, 1, 2, 3] (by simp [hF]) ?_;simp [hF]
   exact key ()
 repeat first|(refine rg 13 [5, 6, 8, 9] [4] [(3, 46), (8, 51)] ?_;simp (maxSteps := 1000000) [hF])
 refine (alike_c h f (by omega)).go [(3, []), (2, [])] (by simp (maxSteps := 1000000) [hF, dBk, eBk]) ?_;rintro av X κ ⟨rfl, rfl, rfl⟩;simp (maxSteps := 1000000) [hF, dBk, eBk]
 refine (alike_c g f0 (by omega)).go [(1, []), (0, [])] (by simp (maxSteps := 1000000) [hF, dBk, eBk]) ?_;rintro av X κ ⟨rfl, rfl, rfl⟩;simp (maxSteps := 1000000) [hF, dBk, eBk]
 refine (sane_ok).go [] (by simp (maxSteps := 1000000) [hF]) ?_;rintro av X κ ⟨rfl, rfl, rfl⟩;simp (maxSteps := 1000000) [hF]
 (try refine nr ?_);(repeat first|refine nb_ ?_|refine nl_ ?_);refine endK.o [4] [] [] ?_;simp [hF, retK, covers, mpre]
end Go.Proofs.YtipokdbfdingmaaGreat

/- Proved: GroundCopies returns true for every input, and its arguments read behind the call as before. No condition. -/
namespace Go.Proofs.YtipokdbfdingmaaGreat.groundCopies
set_option linter.all false
open Go.Vc Go.ChangeShapes Go.WideShapes Go.ChangeAt Go.RowKit
set_option linter.unusedVariables false
theorem own : ownKnob Tryz.prog.godebug = none := by kernel_rfl
theorem laid : laidOutB Tryz.prog = true := by kernel_rfl
set_option maxRecDepth 100000 in
theorem lifted (os : Os) (started : os.Started) (H : Type) (enc : TypeId × Value → H) :
    ReturnsInHanded {} Tryz.checked os 4 .any (Rows.groundCopiesSpec.pre6 enc Tryz.prog Tryz.f4 Rows.groundCopiesRow.domain false) (Rows.groundCopiesSpec.post enc Tryz.prog Tryz.f4 false true false false) := by
  refine returnsInHanded_of_change (C := Tryz.checked) own started (by kernel_rfl) Tryz.func4
    (ChangeSpec.witness6 (enc := enc) (C := Tryz.checked) false ⟨#[], #[.slice none 0 0, .slice none 0 0], []⟩ 8 (by kernel_rfl) (by kernel_rfl) (by kernel_rfl) (by kernel_rfl)) ?_
  intro W base args ds gs before hval0 hW hcnd _
  have hval : ∀ (j : Nat) t v, Tryz.f4.params[j]? = some t → args[j]? = some v → Value.okWide Tryz.prog W .any base t v := hval0
  have hW' := hW
  obtain ⟨p, q, hA0, hV, rfl, hfz, hnd⟩ := hW
  have hA : DataW.TrodAll enc Tryz.prog W 0 (fun _ => true) true Tryz.f4.params.toList args.toList ds p := hA0
  rw [Tryz.params4] at hA hval
  obtain ⟨v0, vs0, d0, ds0, p0, q0, hargs0, rfl, rfl, h0, r0⟩ := trodAll_cons hA
  obtain ⟨v1, vs1, d1, ds1, p1, q1, hargs1, rfl, rfl, h1, r1⟩ := trodAll_cons r0
  obtain ⟨rfl, rfl, rfl⟩ := trodAll_nil r1
  subst hargs1
  obtain rfl : args = #[v0, v1] := by cases args; simp_all
  obtain ⟨rfl, rfl⟩ := trodVars_none hV
  obtain ⟨a0, hlen0, hr0⟩ := deeds_of (hval 0 22 v0 rfl rfl) h0
  obtain ⟨a1, hlen1, hr1⟩ := deeds_of (hval 1 22 v1 rfl rfl) h1
  clear hA0 hval0
  have hwalk : Calls Tryz.prog 4 #[v0, v1] W fun e w' => e = .returned (.bool true) ∧ Below W.heap.size W w' :=
    Meets.law (copies_ok a0 a1 false false) (vs := [v0, v1]) (I := allB W) (fun _ h => h) ⟨v0, _, rfl, hr0, ⟨v1, _, rfl, hr1, rfl⟩⟩
  refine hwalk.mono fun e W' ⟨he, bel⟩ => ?_
  subst he
  exact ⟨_, rfl, _, _, _, [], _, [], hW', trodAll_mk1 (shut_bool Tryz.underlying4 _), (trodAll_cons_mk (Below.trod laid (by kernel_rfl) (of_decide_eq_true (by kernel_rfl)) h0 bel fun x hx => hW'.lt x (by simp [hx])) (trodAll_cons_mk (Below.trod laid (by kernel_rfl) (of_decide_eq_true (by kernel_rfl)) h1 bel fun x hx => hW'.lt x (by simp [hx])) trodAll_mk0)), rfl, bel.frame _, fun h => by cases h⟩
theorem over : Rows.groundCopiesRow.holds Tryz.pinned (OpenSpec.ofChange Rows.groundCopiesSpec) :=
  OpenClaim.holds_of_wide 4 Tryz.f4 rfl rfl rfl rfl rfl rfl rfl ⟨rfl, rfl, rfl, rfl, rfl⟩ rfl rfl rfl rfl rfl (by kernel_rfl) Tryz.func4 (by kernel_rfl)
    (of_decide_eq_true (by kernel_rfl)) (by unfold Func.isWrapper; first | (rw [if_pos (by decide +kernel)]; kernel_rfl) | (rw [if_neg (by decide +kernel)]; exact ⟨rfl, rfl⟩))
    (fun os started H enc _ => lifted os started H enc)
theorem proved : Rows.GroundCopiesSaid :=
  over
end Go.Proofs.YtipokdbfdingmaaGreat.groundCopies
