/- Copies. -/
import Derived.Test.YtfdcfjjobdnofaaGreatK7
import Derived.Test.YtfdcfjjobdnofaaGreatK8
import Derived.Test.YtfdcfjjobdnofaaGreatRows
import Derived.WalkKit
import Derived.ProofKit
import Derived.OpenShut
import Derived.ShutString
import Derived.ChangeOld
import Derived.Carry
namespace Go.Proofs.YtfdcfjjobdnofaaGreat
set_option linter.all false
open Go.Vc Go.Proofs
set_option linter.unusedSimpArgs false
set_option linter.unusedVariables false
set_option maxRecDepth 100000
set_option maxHeartbeats 4000000
attribute [local irreducible] CallW EqK

/- cabochon/cabochonref27.objects -/
theorem eobjects_ok (l : List Ob) (ex : Bool) (hl : l.length ≤ 2000) (h8 : ∀ o ∈ l, o.slots.length ≤ 8) : Meets Tryz.prog 18 [] (.cons (.imm 3 (dObs false l) ex) .nil)
  fun av X κ => av = .sub 0 [] 0 l.length false ∧ X = [.sl true () 3 (dObs true l)] ∧ κ = [] := by
 refine fb Tryz.func18 Tryz.ntmps18 [.tmp 2] fun w0 I0 F0 hF => ?_
 repeat first|refine n1 ?_|((first|refine rg 0 [0] [0] [] ?_|refine rg 1 [0] [0, 3] [] ?_);simp (maxSteps := 1000000) [hF])
 refine VS.hold0 3 3 (by simp) ?_
 repeat first|refine n3 ?_|(refine rg 2 [0, 3] [0, 3, 4] [] ?_;simp (maxSteps := 1000000) [hF])
 refine VS.rounds (fun m st => ∃ (i : Nat) (P : List Ob), i + m = l.length ∧ P = l.take i ∧ st = ⟨[(0, .imm 3 (dObs false l) ex), (3, .sub 0 [] 0 P.length false), (4, avInt i)], [.sl true () 3 (dObs true P)], [], []⟩) ⟨l.length, 0, [], by omega, by simp, by simp⟩ ?_
 rintro m st ⟨i, P, hi, hP, rfl⟩
 have hPl : P.length = i := by rw [hP, List.length_take]; omega
 repeat first|refine n1 ?_|((first|refine rg 3 [0, 3, 4] [0, 3, 4, 8] [] ?_|refine nc ?_);simp (maxSteps := 1000000) [hF])
 refine ⟨fun hlt => ?_, fun hge => ?_⟩
 ·have hlt' : i < l.length := by omega
  have hn1 := dObs_nth (o := false) hlt'
  have hs8 := h8 l[i] (List.getElem_mem hlt')
  have hw : IntKind.i64.wrap ((i : Int) + 1) = (i + 1 : Nat) := by rw [IntWalk.i64_in _ (by omega)]; rfl
  have hp := dObs_push true P l[i].handle l[i].age l[i].slots
  have hm1 := dObs_mid1 true P ⟨l[i].handle, l[i].age, l[i].slots⟩
  have hP2 : P ++ [(⟨l[i].handle, l[i].age, l[i].slots⟩ : Ob)] = l.take (i + 1) := by rw [hP, List.take_add_one, List.getElem?_eq_getElem hlt']; rfl
  have c1 : (P.length + 1) * 40 ≤ 140737488355328 := by omega
  have c2 : P.length ≤ 9223372036854775806 := by omega
  have c3 : l[i].slots.length * 8 ≤ 140737488355328 := by omega
  have c4 : l[i].slots.length ≤ 9223372036854775807 := by omega
  have hm2 := dInts_mid l[i].slots
  repeat first|refine n1 ?_|refine n2 ?_|refine n3 ?_|refine n4 ?_|refine n5 ?_|refine n6 ?_|((first|refine rg 4 [0, 3, 4] [0, 3, 4] [] ?_|(refine dr 5 131072 [0, 3, 4] [0, 3, 4] [] [⟨0, 8, 2048, 5⟩, ⟨0, 1, 4096, 5⟩, ⟨0, 16, 8192, 5⟩, ⟨6, 12288, 16384, 5⟩, ⟨8, 16384, 32768, 5⟩, ⟨16, 32768, 65536, 6⟩, ⟨0, 1, 131072, 5⟩, ⟨0, 16, 262144, 5⟩, ⟨192, 393216, 524288, 5⟩, ⟨256, 524288, 1048576, 5⟩, ⟨512, 1048576, 2097152, 6⟩, ⟨0, 0, 4194304, 4⟩, ⟨0, 1, 8388608, 5⟩, ⟨0, 16, 16777216, 5⟩, ⟨12288, 25165824, 33554432, 5⟩, ⟨16384, 33554432, 67108864, 5⟩, ⟨32768, 67108864, 134217728, 6⟩, ⟨67584, 138412032, 268435456, 0⟩, ⟨132128, 270598144, 536870912, 5⟩, ⟨262144, 536870912, 1073741824, 4⟩, ⟨655361, 1073743872, 2147483648, 0⟩, ⟨2097151, 2147483648, 8, 5⟩] (.take 0 (.take 1 (.take 2 (.take 3 (.take 4 (.take 5 (.take 6 (.take 7 (.take 8 (.take 9 (.take 10 (.take 12 (.take 13 (.take 14 (.take 15 (.take 16 (.fork (.alt 11 (.fork (.alt 17 (.take 18 (.fork (.alt 19 (.fork (.alt 20 (.take 21 (.done)) (.nil))) (.nil)))) (.nil))) (.nil))))))))))))))))))) (.run [0, 1, 2, 3, 4, 5, 6, 7, 8, 9, 10, 12, 13, 14, 15, 16, 11] (.chk 17 (.run [17, 18, 19, 20, 21] (.done)))) ?_;simp only [drs]));simp (maxSteps := 1000000) [hF, hn1, hlt', hp, hm1, hm2, c1, c2, c3, c4, hw])
  all_goals (repeat' refine And.intro ?_ ?_)
  all_goals (refine nextK.of [0, 3, 4] [0] (m - 1) (by omega) (by simp [hF]) ?_)
  all_goals exact ⟨i + 1, P ++ [⟨l[i].handle, l[i].age, l[i].slots⟩], by omega, hP2, by simp⟩
 ·have hPe : P = l := by rw [hP, List.take_of_length_le (by omega)]
  repeat first|refine n1 ?_|refine n7 ?_|(refine rg 6 [3] [2] [] ?_;simp (maxSteps := 1000000) [hF])
  (try refine nr ?_);(repeat first|refine nb_ ?_|refine nl_ ?_);refine endK.o [2] [0] [] ?_;simp [hF, retK, covers, mpre, hPe]

/- (*cabochon/cabochonref27.Heap).Copy -/
theorem ecopy_i (h : Hp) (k : Ok h) (hwl : h.weak.length ≤ 1000000) (hfl : h.fins.length ≤ 1000000) (hql : h.queue.length ≤ 1000000) : Meets Tryz.prog 6 [] (.cons (avE h) .nil)
  fun av X κ => av = .ptr 0 [.d] ∧ X = [eHp h] ∧ κ = [] := by
 obtain ⟨b1, b2, b3, b4⟩ := k.lens
 have b5 := k.roots.1
 have h8 : ∀ o ∈ obs h, o.slots.length ≤ 8 := fun o ho => (k.small o ho).2.2.2.1
 have c1 : h.roots.length * 8 ≤ 140737488355328 := by omega
 have c2 : h.roots.length ≤ 9223372036854775807 := by omega
 have c3 : h.weak.length * 16 ≤ 140737488355328 := by omega
 have c4 : h.weak.length ≤ 9223372036854775807 := by omega
 have c5 : h.fins.length * 16 ≤ 140737488355328 := by omega
 have c6 : h.fins.length ≤ 9223372036854775807 := by omega
 have c7 : h.queue.length * 8 ≤ 140737488355328 := by omega
 have c8 : h.queue.length ≤ 9223372036854775807 := by omega
 have m1 := dInts_mid h.roots
 have m2 := dInts_mid h.queue
 have m3 := dEns_mid_all h.weak
 have m4 := dEns_mid_all h.fins
 refine fb Tryz.func6 Tryz.ntmps6 [.tmp 2] fun w0 I0 F0 hF => ?_
 repeat first|refine n1 ?_|((first|refine rg 0 [0] [0] [] ?_|refine rg 1 [0] [0, 5] [] ?_);simp (maxSteps := 1000000) [hF])
 refine (no_ok h).go [] (by simp (maxSteps := 1000000) [hF]) ?_;rintro av X κ ⟨rfl, rfl, rfl⟩;simp (maxSteps := 1000000) [hF]
 repeat first|refine n1 ?_|refine n2 ?_|((first|refine rg 3 [0] [0, 3] [] ?_|refine rg 4 [0, 3] [0, 3] [] ?_|refine nc ?_);simp (maxSteps := 1000000) [hF, eHb])
 refine (eobjects_ok h.young false (by omega) (fun o ho => h8 o (by simp [obs, ho]))).go [] (by simp (maxSteps := 1000000) [hF, eHb]) ?_;rintro av X κ ⟨rfl, rfl, rfl⟩;simp (maxSteps := 1000000) [hF, eHb]
 repeat first|refine n1 ?_|(refine rg 5 [0, 3] [0, 3] [] ?_;simp (maxSteps := 1000000) [hF, eHb])
 refine (eobjects_ok h.old false (by omega) (fun o ho => h8 o (by simp [obs, ho]))).go [] (by simp (maxSteps := 1000000) [hF, eHb]) ?_;rintro av X κ ⟨rfl, rfl, rfl⟩;simp (maxSteps := 1000000) [hF, eHb]
 repeat first|refine n1 ?_|((first|refine rg 6 [0, 3] [0, 3] [] ?_|refine rg 7 [0, 3] [0, 3] [] ?_|refine rg 8 [0, 3] [0, 3] [] ?_|refine rg 9 [0, 3] [3] [] ?_|refine rg 10 [3] [2] [] ?_);simp (maxSteps := 1000000) [hF, eHb, c1, c2, c3, c4, c5, c6, c7, c8, m1, m2, m3, m4])
 (try refine nr ?_);(repeat first|refine nb_ ?_|refine nl_ ?_);refine endK.o [2] [0] [] ?_;simp [hF, retK, covers, mpre, eHp, eHb]

/-- A heap of the program's that is being copied. -/
def dXh (d0 d1 d2 d3 d4 d5 : D) (h : Hp) : D := .box true () (.agg (.cons (.agg (.cons (.val (.int .i64 h.ry)) (.cons (.val (.int .i64 h.ro)) .nil))) (.cons (.agg (.cons d0 (.cons d1 .nil))) (.cons (.val (.int .i64 h.next))
 (.cons d2 (.cons d3 (.cons d4 (.cons d5 .nil))))))))
@[simp high] theorem head_dXh (d0 d1 d2 d3 d4 d5 : D) (h : Hp) : isHead (dXh d0 d1 d2 d3 d4 d5 h) = true := by rw [dXh, isHead]
def dSpC (n : Nat) (l : List Ob) : D := if n = 0 then .sl false () 3 (dObs false l) else .sl true () 3 (dObs true l)
/- (*cabochon/heap.Heap).Copy -/
theorem copy_i (h : Hp) (k : Ok h) (hwl : h.weak.length ≤ 1000000) (hfl : h.fins.length ≤ 1000000) (hql : h.queue.length ≤ 1000000) : Meets Tryz.prog 5 [] (.cons (avH h) .nil)
  fun av X κ => av = .ptr 0 [.d] ∧ X = [dHp h] ∧ κ = [] := by
 have hn0 : 0 < h.next := by have := k.next; omega
 obtain ⟨b1, b2, b3, b4⟩ := k.lens
 have b5 := k.roots.1
 have w1 : IntKind.i64.wrap 1 = 1 := by decide
 have w2 : IntKind.i64.wrap 2 = 2 := by decide
 have h8 : ∀ o ∈ obs h, o.slots.length ≤ 8 := fun o ho => (k.small o ho).2.2.2.1
 refine fb Tryz.func5 Tryz.ntmps5 [.tmp 2] fun w0 I0 F0 hF => ?_
 repeat first|refine n1 ?_|((first|refine rg 0 [0] [0] [] ?_|refine rg 1 [0] [0, 9] [] ?_);simp (maxSteps := 1000000) [hF])
 refine (real_ok h hn0).go [] (by simp (maxSteps := 1000000) [hF]) ?_;rintro av X κ ⟨rfl, rfl, rfl⟩;simp (maxSteps := 1000000) [hF]
 repeat first|refine n1 ?_|refine n2 ?_|refine n3 ?_|((first|refine rg 3 [0] [0, 3] [] ?_|refine rg 4 [0, 3] [0, 3, 16, 17] [] ?_|refine nc ?_);simp (maxSteps := 1000000) [hF, dHb])
 refine VS.pick [0, 3, 16, 17] [0] (by simp [hF]) ?_;simp [hF]
 refine VS.rounds (fun m st => ∃ (n : Nat) (d0 d1 : D), n + m = 2 ∧ (n = 0 → d0 = .sl false () 3 (dObs false h.young)) ∧ (1 ≤ n → d0 = .sl true () 3 (dObs true h.young)) ∧ (n ≤ 1 → d1 = .sl false () 3 (dObs false h.old)) ∧ (2 ≤ n → d1 = .sl true () 3 (dObs true h.old)) ∧
  st = ⟨[(0, avH h), (3, .ptr 0 [.d]), (16, .agg (.cons (.imm 3 (dObs false h.young) false) (.cons (.imm 3 (dObs false h.old) false) .nil))), (17, avInt n)], [dXh d0 d1 (.sl false () 1 (dInts h.roots)) (.sl false () 2 (dEns h.weak)) (.sl false () 2 (dEns h.fins)) (.sl false () 1 (dInts h.queue)) h], [], []⟩)
  ⟨2, 0, .sl false () 3 (dObs false h.young), .sl false () 3 (dObs false h.old), by omega, fun _ => rfl, by omega, fun _ => rfl, by omega, by simp [dXh, dHb]⟩ ?_
 rintro m st ⟨n, d0, d1, hn, hd0, hd0', hd1, hd1', rfl⟩
 have hn3 : n = 0 ∨ n = 1 ∨ n = 2 := by omega
 rcases hn3 with rfl | rfl | rfl
 ·obtain rfl := hd0 rfl
  obtain rfl := hd1 (by omega)
  clear hd0' hd1'
  repeat first|refine n1 ?_|refine n2 ?_|refine n3 ?_|((first|refine rg 5 [0, 3, 16, 17] [0, 3, 16, 17, 18] [] ?_|refine rg 6 [0, 3, 16, 17] [0, 3, 4, 5, 16, 17] [] ?_|refine rg 7 [0, 3, 4, 5, 16, 17] [0, 3, 4, 5, 16, 17] [] ?_|refine nc ?_);simp (maxSteps := 1000000) [hF, dXh])
  refine (cloneO_ok false h.young (by omega)).go [] (by simp (maxSteps := 1000000) [hF, dXh]) ?_;rintro av X κ ⟨rfl, rfl, rfl⟩;simp (maxSteps := 1000000) [hF, dXh]
  repeat first|refine n1 ?_|refine n3 ?_|(refine rg 8 [0, 3, 4, 5, 16, 17] [0, 3, 4, 5, 16, 17, 27, 28] [] ?_;simp (maxSteps := 1000000) [hF, dXh])
  refine VS.pick [0, 3, 4, 5, 16, 17, 27, 28] [0] (by simp [hF]) ?_;simp [hF]
  refine VS.rounds (fun m2 st => ∃ (i : Nat), i + m2 = h.young.length ∧ st = ⟨[(0, avH h), (3, .ptr 0 [.d]), (4, avInt 0), (5, .imm 3 (dObs false h.young) false), (16, .agg (.cons (.imm 3 (dObs false h.young) false) (.cons (.imm 3 (dObs false h.old) false) .nil))), (17, avInt 0), (27, avInt h.young.length), (28, avInt i)],
   [dXh (.sl true () 3 (dObsN i h.young)) (.sl false () 3 (dObs false h.old)) (.sl false () 1 (dInts h.roots)) (.sl false () 2 (dEns h.weak)) (.sl false () 2 (dEns h.fins)) (.sl false () 1 (dInts h.queue)) h], [], []⟩) ⟨h.young.length, 0, by omega, by simp [dXh, dObsN_zero]⟩ ?_
  rintro m2 st ⟨i, hi, rfl⟩
  repeat first|refine n1 ?_|((first|refine rg 9 [0, 3, 4, 5, 16, 17, 27, 28] [0, 3, 4, 5, 16, 17, 27, 28, 29] [] ?_|refine nc ?_);simp (maxSteps := 1000000) [hF])
  refine ⟨fun hlt => ?_, fun hge => ?_⟩
  ·have hlt' : i < h.young.length := by omega
   have hn1 := dObs_nth (o := false) hlt'
   have hn2 := dObsN_nth (n := i) hlt'
   have hst := dObsN_step hlt'
   have hs8 : h.young[i].slots.length ≤ 8 := h8 _ (by simp [obs, List.getElem_mem hlt'])
   have hw : IntKind.i64.wrap ((i : Int) + 1) = (i + 1 : Nat) := by rw [IntWalk.i64_in _ (by omega)]; rfl
   simp only [Nat.lt_irrefl, decide_false] at hn2
   repeat first|refine n1 ?_|refine n2 ?_|refine n3 ?_|((first|refine rg 10 [0, 3, 4, 5, 16, 17, 27, 28] [0, 3, 4, 5, 6, 16, 17, 27, 28] [] ?_|(refine dr 11 1024 [0, 3, 4, 5, 6, 16, 17, 27, 28] [0, 3, 4, 5, 16, 17, 27, 28] [] [⟨0, 16, 2147483648, 5⟩, ⟨0, 8, 4294967296, 5⟩, ⟨3, 6442450944, 8589934592, 5⟩, ⟨4, 8589934592, 17179869184, 6⟩, ⟨0, 64, 34359738368, 5⟩, ⟨0, 32, 68719476736, 5⟩, ⟨0, 64, 137438953472, 5⟩, ⟨96, 206158430208, 274877906944, 5⟩, ⟨128, 274877906944, 549755813888, 5⟩, ⟨256, 549755813888, 1099511627776, 6⟩, ⟨512, 1099511627776, 2199023255552, 0⟩, ⟨2047, 51539607552, 4398046511104, 5⟩, ⟨4095, 4398046511104, 8796093022208, 5⟩, ⟨6143, 10995116277760, 0, 0⟩] (.take 0 (.take 1 (.take 2 (.take 3 (.take 4 (.take 5 (.take 6 (.take 7 (.take 8 (.take 9 (.fork (.alt 10 (.take 11 (.take 12 (.fork (.alt 13 (.done) (.nil))))) (.nil))))))))))))) (.run [0, 1, 2, 3, 4, 5, 6, 7, 8, 9] (.chk 10 (.run [10, 11, 12, 13] (.done)))) ?_;simp only [drs]));simp (maxSteps := 1000000) [hF, dXh, hn1, hn2, hlt'])
   all_goals (repeat' refine And.intro ?_ ?_)
   all_goals (refine (clone_ok false h.young[i].slots (by omega)).go [] (by simp (maxSteps := 1000000) [hF, dXh, hn1, hn2, hlt', hst]) ?_;rintro av X κ ⟨rfl, rfl, rfl⟩;simp (maxSteps := 1000000) [hF, dXh, hn1, hn2, hlt', hst])
   all_goals (repeat first|refine n4 ?_|refine n5 ?_|refine n6 ?_|(refine rg 12 [0, 3, 4, 5, 16, 17, 27, 28] [0, 3, 4, 5, 16, 17, 27, 28] [] ?_;simp (maxSteps := 1000000) [hF, dXh, hw, hn1, hn2, hlt', hst]))
   all_goals (refine nextK.of [0, 3, 4, 5, 16, 17, 27, 28] [0] (m2 - 1) (by omega) (by simp [hF]) ?_)
   all_goals exact ⟨i + 1, by omega, by simp [dXh]⟩
  ·obtain rfl : i = h.young.length := by omega
   have hra := dObsN_all h.young
   repeat first|refine n4 ?_|refine n5 ?_|refine n6 ?_|refine n7 ?_|(refine rg 13 [0, 3, 16, 17] [0, 3, 16, 17] [] ?_;simp (maxSteps := 1000000) [hF, w1])
   refine nextK.of [0, 3, 16, 17] [0] (1) (by omega) (by simp [hF]) ?_
   exact ⟨1, .sl true () 3 (dObs true h.young), .sl false () 3 (dObs false h.old), by omega, by omega, fun _ => rfl , fun _ => rfl, by omega, by simp [dXh, hra, w1]⟩
 ·obtain rfl := hd0' (by omega)
  obtain rfl := hd1 (by omega)
  clear hd0 hd1'
  repeat first|refine n1 ?_|refine n2 ?_|refine n3 ?_|((first|refine rg 5 [0, 3, 16, 17] [0, 3, 16, 17, 18] [] ?_|refine rg 6 [0, 3, 16, 17] [0, 3, 4, 5, 16, 17] [] ?_|refine rg 7 [0, 3, 4, 5, 16, 17] [0, 3, 4, 5, 16, 17] [] ?_|refine nc ?_);simp (maxSteps := 1000000) [hF, dXh])
  refine (cloneO_ok false h.old (by omega)).go [] (by simp (maxSteps := 1000000) [hF, dXh]) ?_;rintro av X κ ⟨rfl, rfl, rfl⟩;simp (maxSteps := 1000000) [hF, dXh]
  repeat first|refine n1 ?_|refine n3 ?_|(refine rg 8 [0, 3, 4, 5, 16, 17] [0, 3, 4, 5, 16, 17, 27, 28] [] ?_;simp (maxSteps := 1000000) [hF, dXh])
  refine VS.pick [0, 3, 4, 5, 16, 17, 27, 28] [0] (by simp [hF]) ?_;simp [hF]
  refine VS.rounds (fun m2 st => ∃ (i : Nat), i + m2 = h.old.length ∧ st = ⟨[(0, avH h), (3, .ptr 0 [.d]), (4, avInt 1), (5, .imm 3 (dObs false h.old) false), (16, .agg (.cons (.imm 3 (dObs false h.young) false) (.cons (.imm 3 (dObs false h.old) false) .nil))), (17, avInt 1), (27, avInt h.old.length), (28, avInt i)],
   [dXh (.sl true () 3 (dObs true h.young)) (.sl true () 3 (dObsN i h.old)) (.sl false () 1 (dInts h.roots)) (.sl false () 2 (dEns h.weak)) (.sl false () 2 (dEns h.fins)) (.sl false () 1 (dInts h.queue)) h], [], []⟩) ⟨h.old.length, 0, by omega, by simp [dXh, dObsN_zero]⟩ ?_
  rintro m2 st ⟨i, hi, rfl⟩
  repeat first|refine n1 ?_|((first|refine rg 9 [0, 3, 4, 5, 16, 17, 27, 28] [0, 3, 4, 5, 16, 17, 27, 28, 29] [] ?_|refine nc ?_);simp (maxSteps := 1000000) [hF])
  refine ⟨fun hlt => ?_, fun hge => ?_⟩
  ·have hlt' : i < h.old.length := by omega
   have hn1 := dObs_nth (o := false) hlt'
   have hn2 := dObsN_nth (n := i) hlt'
   have hst := dObsN_step hlt'
   have hs8 : h.old[i].slots.length ≤ 8 := h8 _ (by simp [obs, List.getElem_mem hlt'])
   have hw : IntKind.i64.wrap ((i : Int) + 1) = (i + 1 : Nat) := by rw [IntWalk.i64_in _ (by omega)]; rfl
   simp only [Nat.lt_irrefl, decide_false] at hn2
   repeat first|refine n1 ?_|refine n2 ?_|refine n3 ?_|((first|refine rg 10 [0, 3, 4, 5, 16, 17, 27, 28] [0, 3, 4, 5, 6, 16, 17, 27, 28] [] ?_|(refine dr 11 1024 [0, 3, 4, 5, 6, 16, 17, 27, 28] [0, 3, 4, 5, 16, 17, 27, 28] [] [⟨0, 16, 2147483648, 5⟩, ⟨0, 8, 4294967296, 5⟩, ⟨3, 6442450944, 8589934592, 5⟩, ⟨4, 8589934592, 17179869184, 6⟩, ⟨0, 64, 34359738368, 5⟩, ⟨0, 32, 68719476736, 5⟩, ⟨0, 64, 137438953472, 5⟩, ⟨96, 206158430208, 274877906944, 5⟩, ⟨128, 274877906944, 549755813888, 5⟩, ⟨256, 549755813888, 1099511627776, 6⟩, ⟨512, 1099511627776, 2199023255552, 0⟩, ⟨2047, 51539607552, 4398046511104, 5⟩, ⟨4095, 4398046511104, 8796093022208, 5⟩, ⟨6143, 10995116277760, 0, 0⟩] (.take 0 (.take 1 (.take 2 (.take 3 (.take 4 (.take 5 (.take 6 (.take 7 (.take 8 (.take 9 (.fork (.alt 10 (.take 11 (.take 12 (.fork (.alt 13 (.done) (.nil))))) (.nil))))))))))))) (.run [0, 1, 2, 3, 4, 5, 6, 7, 8, 9] (.chk 10 (.run [10, 11, 12, 13] (.done)))) ?_;simp only [drs]));simp (maxSteps := 1000000) [hF, dXh, hn1, hn2, hlt'])
   all_goals (repeat' refine And.intro ?_ ?_)
   all_goals (refine (clone_ok false h.old[i].slots (by omega)).go [] (by simp (maxSteps := 1000000) [hF, dXh, hn1, hn2, hlt', hst]) ?_;rintro av X κ ⟨rfl, rfl, rfl⟩;simp (maxSteps := 1000000) [hF, dXh, hn1, hn2, hlt', hst])
   all_goals (repeat first|refine n4 ?_|refine n5 ?_|refine n6 ?_|(refine rg 12 [0, 3, 4, 5, 16, 17, 27, 28] [0, 3, 4, 5, 16, 17, 27, 28] [] ?_;simp (maxSteps := 1000000) [hF, dXh, hw, hn1, hn2, hlt', hst]))
   all_goals (refine nextK.of [0, 3, 4, 5, 16, 17, 27, 28] [0] (m2 - 1) (by omega) (by simp [hF]) ?_)
   all_goals exact ⟨i + 1, by omega, by simp [dXh]⟩
  ·obtain rfl : i = h.old.length := by omega
   have hra := dObsN_all h.old
   repeat first|refine n4 ?_|refine n5 ?_|refine n6 ?_|refine n7 ?_|(refine rg 13 [0, 3, 16, 17] [0, 3, 16, 17] [] ?_;simp (maxSteps := 1000000) [hF, w2])
   refine nextK.of [0, 3, 16, 17] [0] (0) (by omega) (by simp [hF]) ?_
   exact ⟨2, .sl true () 3 (dObs true h.young), .sl true () 3 (dObs true h.old), by omega, by omega, fun _ => rfl , by omega, fun _ => rfl, by simp [dXh, hra, w2]⟩
 ·obtain rfl := hd0' (by omega)
  obtain rfl := hd1' (by omega)
  repeat first|refine n1 ?_|refine n7 ?_|((first|refine rg 5 [0, 3, 16, 17] [0, 3, 16, 17, 18] [] ?_|(refine dr 14 541200 [0, 3] [3] [] [⟨0, 1, 70368744177664, 5⟩, ⟨1, 70368744177664, 140737488355328, 5⟩, ⟨2, 140737488355328, 281474976710656, 5⟩, ⟨4, 281474976710656, 562949953421312, 6⟩, ⟨8, 562949953421312, 1125899906842624, 0⟩, ⟨0, 1, 2251799813685248, 5⟩, ⟨32, 2251799813685248, 4503599627370496, 5⟩, ⟨64, 4503599627370496, 9007199254740992, 5⟩, ⟨128, 9007199254740992, 18014398509481984, 6⟩, ⟨272, 18014398509481984, 36028797018963968, 0⟩, ⟨0, 1, 72057594037927936, 5⟩, ⟨1024, 72057594037927936, 144115188075855872, 5⟩, ⟨2048, 144115188075855872, 288230376151711744, 5⟩, ⟨4096, 288230376151711744, 576460752303423488, 6⟩, ⟨8704, 576460752303423488, 1152921504606846976, 0⟩, ⟨0, 1, 2305843009213693952, 5⟩, ⟨32768, 2305843009213693952, 4611686018427387904, 5⟩, ⟨65536, 4611686018427387904, 9223372036854775808, 5⟩, ⟨131072, 9223372036854775808, 18446744073709551616, 6⟩, ⟨278528, 18446744073709551616, 36893488147419103232, 0⟩, ⟨811807, 8, 73786976294838206464, 5⟩, ⟨1860383, 73788102194745049088, 0, 0⟩, ⟨3957759, 8, 147573952589676412928, 5⟩, ⟨8152063, 147609981386695376896, 0, 0⟩, ⟨16547839, 8, 295147905179352825856, 5⟩, ⟨33325055, 296300826683959672832, 0, 0⟩, ⟨67108863, 8, 590295810358705651712, 5⟩, ⟨134217727, 627189298506124754944, 0, 0⟩] (.take 0 (.take 1 (.take 2 (.take 3 (.take 5 (.take 6 (.take 7 (.take 8 (.take 10 (.take 11 (.take 12 (.take 13 (.take 15 (.take 16 (.take 17 (.take 18 (.fork (.alt 4 (.fork (.alt 9 (.fork (.alt 14 (.fork (.alt 19 (.take 20 (.fork (.alt 21 (.take 22 (.fork (.alt 23 (.take 24 (.fork (.alt 25 (.take 26 (.fork (.alt 27 (.done) (.nil)))) (.nil)))) (.nil)))) (.nil)))) (.nil))) (.nil))) (.nil))) (.nil))))))))))))))))))) (.run [0, 1, 2, 3, 5, 6, 7, 8, 10, 11, 12, 13, 15, 16, 17, 18] (.chk 4 (.run [4] (.chk 9 (.run [9] (.chk 14 (.run [14] (.chk 19 (.run [19, 20, 21, 22, 23, 24, 25, 26, 27] (.done)))))))))) ?_;simp only [drs])|refine nc ?_);simp (maxSteps := 1000000) [hF, dXh, dHb])
  all_goals (repeat' refine And.intro ?_ ?_)
  all_goals (refine (clone_ok false h.roots (by omega)).go [] (by simp (maxSteps := 1000000) [hF, dXh, dHb]) ?_;rintro av X κ ⟨rfl, rfl, rfl⟩;simp (maxSteps := 1000000) [hF, dXh, dHb])
  all_goals (repeat' refine And.intro ?_ ?_)
  all_goals (refine (cloneE_ok false h.weak hwl).go [] (by simp (maxSteps := 1000000) [hF, dXh, dHb]) ?_;rintro av X κ ⟨rfl, rfl, rfl⟩;simp (maxSteps := 1000000) [hF, dXh, dHb])
  all_goals (repeat' refine And.intro ?_ ?_)
  all_goals (refine (cloneE_ok false h.fins hfl).go [] (by simp (maxSteps := 1000000) [hF, dXh, dHb]) ?_;rintro av X κ ⟨rfl, rfl, rfl⟩;simp (maxSteps := 1000000) [hF, dXh, dHb])
  all_goals (repeat' refine And.intro ?_ ?_)
  all_goals (refine (clone_ok false h.queue (by omega)).go [] (by simp (maxSteps := 1000000) [hF, dXh, dHb]) ?_;rintro av X κ ⟨rfl, rfl, rfl⟩;simp (maxSteps := 1000000) [hF, dXh, dHb])
  all_goals (repeat first|refine n1 ?_|(refine rg 15 [3] [2] [] ?_;simp (maxSteps := 1000000) [hF, dXh, dHb]))
  all_goals ((try refine nr ?_);(repeat first|refine nb_ ?_|refine nl_ ?_);refine endK.o [2] [0] [] ?_;simp [hF, retK, covers, mpre, dHp, dHb])
theorem copy_c (h : Hp) (k : Ok h) (hwl : h.weak.length ≤ 1000000) (hfl : h.fins.length ≤ 1000000) (hql : h.queue.length ≤ 1000000) : Meets Tryz.prog 5 [dHp h] (.cons (.ptr 0 [.d]) .nil) fun av X κ => av = .ptr 1 [.d] ∧ X = [dHp h, dHp h] ∧ κ = [] :=
 warmH (copy_i h k hwl hfl hql) rfl rfl (by simp) rfl
theorem ecopy_c (h : Hp) (k : Ok h) (hwl : h.weak.length ≤ 1000000) (hfl : h.fins.length ≤ 1000000) (hql : h.queue.length ≤ 1000000) : Meets Tryz.prog 6 [eHp h] (.cons (.ptr 0 [.d]) .nil) fun av X κ => av = .ptr 1 [.d] ∧ X = [eHp h, eHp h] ∧ κ = [] :=
 warmE (ecopy_i h k hwl hfl hql) rfl rfl (by simp) rfl
theorem doE_fit {n : Nat} {h : Hp} (f : Fit n h) (d : Hd) : Fit (n + 1) (doE h (actD d h)).1 := fit_do f _
/- cabochon/cabochonlaw27.HeapCopies -/
theorem copies_ok (nn : Int) (L M : List Hd) (ex ex2 : Bool) : Meets Tryz.prog 3 [] (.cons (avInt nn) (.cons (.imm 5 (dLds L) ex) (.cons (.imm 5 (dLds M) ex2) .nil))) fun av X κ => av = .val (.bool true) := by
 have f0 := fit_played nn L
 obtain ⟨h, hP⟩ : ∃ h, h = playedOf nn L := ⟨_, rfl⟩
 rw [← hP] at f0
 have k := f0.fine.ok
 have hwl := f0.wl (by omega)
 have hfl := f0.fl (by omega)
 have hql := f0.ql (by omega)
 have hnx : h.next ≤ 1000000 := by have := f0.next; omega
 refine fb Tryz.func3 Tryz.ntmps3 [.tmp 6] fun w0 I0 F0 hF => ?_
 repeat first|refine n1 ?_|refine n2 ?_|refine n3 ?_|refine n4 ?_|refine n5 ?_|refine n6 ?_|refine n7 ?_|refine n8 ?_|refine n9 ?_|refine n0 ?_|refine ⟨⟨by omega, by omega⟩, ?_⟩|((first|refine rg 0 [0, 1, 2] [0, 1, 2] [] ?_|refine rg 1 [0, 1, 2] [2, 7, 8, 9] [] ?_|refine rg 2 [2, 7, 8, 9] [2, 7, 8, 21] [] ?_|refine rg 3 [] [6] [] ?_|refine rg 4 [2, 7, 8] [2, 7, 8, 10] [] ?_|refine rg 5 [2, 7, 8, 10] [2, 7, 8, 10, 11] [] ?_|refine rg 6 [2, 7, 8, 10, 11] [2, 7, 8, 10, 11, 27] [] ?_|refine rg 7 [] [6] [] ?_|refine rg 8 [2, 7, 8, 10, 11] [2, 7, 8, 10, 11, 12] [] ?_|refine rg 9 [2, 7, 8, 10, 11, 12] [2, 7, 8, 10, 11, 12, 35] [(4, 32)] ?_|refine rg 10 [2, 7, 8, 10, 11, 12] [2, 7, 8, 10, 11, 12] [] ?_|refine rg 11 [2, 7, 8, 10, 11, 12] [2, 7, 8, 10, 11, 12, 45] [] ?_|refine rg 12 [] [6] [] ?_|refine rg 13 [7, 8, 10, 11] [6] [(3, 49), (8, 54)] ?_|refine nc ?_);simp (maxSteps := 1000000) [hF])
 refine (played_ok nn L ex).go [] (by simp (maxSteps := 1000000) [hF, ← hP]) ?_;rintro av X κ ⟨rfl, rfl, rfl⟩;simp (maxSteps := 1000000) [hF, ← hP]
 repeat first|refine n1 ?_|refine n2 ?_|refine n3 ?_|refine n4 ?_|refine n5 ?_|refine n6 ?_|refine n7 ?_|refine n8 ?_|refine n9 ?_|refine n0 ?_|refine ⟨⟨by omega, by omega⟩, ?_⟩|((first|refine rg 0 [0, 1, 2] [0, 1, 2] [] ?_|refine rg 1 [0, 1, 2] [2, 7, 8, 9] [] ?_|refine rg 2 [2, 7, 8, 9] [2, 7, 8, 21] [] ?_|refine rg 3 [] [6] [] ?_|refine rg 4 [2, 7, 8] [2, 7, 8, 10] [] ?_|refine rg 5 [2, 7, 8, 10] [2, 7, 8, 10, 11] [] ?_|refine rg 6 [2, 7, 8, 10, 11] [2, 7, 8, 10, 11, 27] [] ?_|refine rg 7 [] [6] [] ?_|refine rg 8 [2, 7, 8, 10, 11] [2, 7, 8, 10, 11, 12] [] ?_|refine rg 9 [2, 7, 8, 10, 11, 12] [2, 7, 8, 10, 11, 12, 35] [(4, 32)] ?_|refine rg 10 [2, 7, 8, 10, 11, 12] [2, 7, 8, 10, 11, 12] [] ?_|refine rg 11 [2, 7, 8, 10, 11, 12] [2, 7, 8, 10, 11, 12, 45] [] ?_|refine rg 12 [] [6] [] ?_|refine rg 13 [7, 8, 10, 11] [6] [(3, 49), (8, 54)] ?_|refine nc ?_);simp (maxSteps := 1000000) [hF])
 refine (copy_c h k hwl hfl hql).go [(0, [])] (by simp (maxSteps := 1000000) [hF, dHp]) ?_;rintro av X κ ⟨rfl, rfl, rfl⟩;simp (maxSteps := 1000000) [hF, dHp]
 repeat first|refine n1 ?_|refine n2 ?_|refine n3 ?_|refine n4 ?_|refine n5 ?_|refine n6 ?_|refine n7 ?_|refine n8 ?_|refine n9 ?_|refine n0 ?_|refine ⟨⟨by omega, by omega⟩, ?_⟩|((first|refine rg 0 [0, 1, 2] [0, 1, 2] [] ?_|refine rg 1 [0, 1, 2] [2, 7, 8, 9] [] ?_|refine rg 2 [2, 7, 8, 9] [2, 7, 8, 21] [] ?_|refine rg 3 [] [6] [] ?_|refine rg 4 [2, 7, 8] [2, 7, 8, 10] [] ?_|refine rg 5 [2, 7, 8, 10] [2, 7, 8, 10, 11] [] ?_|refine rg 6 [2, 7, 8, 10, 11] [2, 7, 8, 10, 11, 27] [] ?_|refine rg 7 [] [6] [] ?_|refine rg 8 [2, 7, 8, 10, 11] [2, 7, 8, 10, 11, 12] [] ?_|refine rg 9 [2, 7, 8, 10, 11, 12] [2, 7, 8, 10, 11, 12, 35] [(4, 32)] ?_|refine rg 10 [2, 7, 8, 10, 11, 12] [2, 7, 8, 10, 11, 12] [] ?_|refine rg 11 [2, 7, 8, 10, 11, 12] [2, 7, 8, 10, 11, 12, 45] [] ?_|refine rg 12 [] [6] [] ?_|refine rg 13 [7, 8, 10, 11] [6] [(3, 49), (8, 54)] ?_|refine nc ?_);simp (maxSteps := 1000000) [hF])
 refine (ecopy_c h k hwl hfl hql).go [(1, [])] (by simp (maxSteps := 1000000) [hF, eHp]) ?_;rintro av X κ ⟨rfl, rfl, rfl⟩;simp (maxSteps := 1000000) [hF, eHp]
 repeat first|refine n1 ?_|refine n2 ?_|refine n3 ?_|refine n4 ?_|refine n5 ?_|refine n6 ?_|refine n7 ?_|refine n8 ?_|refine n9 ?_|refine n0 ?_|refine ⟨⟨by omega, by omega⟩, ?_⟩|((first|refine rg 0 [0, 1, 2] [0, 1, 2] [] ?_|refine rg 1 [0, 1, 2] [2, 7, 8, 9] [] ?_|refine rg 2 [2, 7, 8, 9] [2, 7, 8, 21] [] ?_|refine rg 3 [] [6] [] ?_|refine rg 4 [2, 7, 8] [2, 7, 8, 10] [] ?_|refine rg 5 [2, 7, 8, 10] [2, 7, 8, 10, 11] [] ?_|refine rg 6 [2, 7, 8, 10, 11] [2, 7, 8, 10, 11, 27] [] ?_|refine rg 7 [] [6] [] ?_|refine rg 8 [2, 7, 8, 10, 11] [2, 7, 8, 10, 11, 12] [] ?_|refine rg 9 [2, 7, 8, 10, 11, 12] [2, 7, 8, 10, 11, 12, 35] [(4, 32)] ?_|refine rg 10 [2, 7, 8, 10, 11, 12] [2, 7, 8, 10, 11, 12] [] ?_|refine rg 11 [2, 7, 8, 10, 11, 12] [2, 7, 8, 10, 11, 12, 45] [] ?_|refine rg 12 [] [6] [] ?_|refine rg 13 [7, 8, 10, 11] [6] [(3, 49), (8, 54)] ?_|refine nc ?_);simp (maxSteps := 1000000) [hF])
 refine VS.rounds (fun m st => ∃ (i : Nat) (g : Hp), i + m = M.length ∧ i ≤ 100 ∧ Fit (100 + i) g ∧ st = ⟨[(2, .imm 5 (dLds M) ex2), (7, .ptr 0 [.d]), (8, .ptr 1 [.d]), (10, .ptr 2 [.d]), (11, .ptr 3 [.d]), (12, avInt i)], [dHp h, eHp h, dHp g, eHp g], [], []⟩) ⟨M.length, 0, h, by omega, by omega, f0, by simp [dHp, eHp]⟩ ?_
 rintro m st ⟨i, g, hi, hi8, f, rfl⟩
 have hw : IntKind.i64.wrap ((i : Int) + 1) = (i + 1 : Nat) := by rw [IntWalk.i64_in _ (by omega)]; rfl
 repeat first|refine n1 ?_|refine n2 ?_|refine n3 ?_|refine n4 ?_|refine n5 ?_|refine n6 ?_|refine n7 ?_|refine n8 ?_|refine n9 ?_|refine n0 ?_|refine ⟨⟨by omega, by omega⟩, ?_⟩|((first|refine rg 0 [0, 1, 2] [0, 1, 2] [] ?_|refine rg 1 [0, 1, 2] [2, 7, 8, 9] [] ?_|refine rg 2 [2, 7, 8, 9] [2, 7, 8, 21] [] ?_|refine rg 3 [] [6] [] ?_|refine rg 4 [2, 7, 8] [2, 7, 8, 10] [] ?_|refine rg 5 [2, 7, 8, 10] [2, 7, 8, 10, 11] [] ?_|refine rg 6 [2, 7, 8, 10, 11] [2, 7, 8, 10, 11, 27] [] ?_|refine rg 7 [] [6] [] ?_|refine rg 8 [2, 7, 8, 10, 11] [2, 7, 8, 10, 11, 12] [] ?_|refine rg 9 [2, 7, 8, 10, 11, 12] [2, 7, 8, 10, 11, 12, 35] [(4, 32)] ?_|refine rg 10 [2, 7, 8, 10, 11, 12] [2, 7, 8, 10, 11, 12] [] ?_|refine rg 11 [2, 7, 8, 10, 11, 12] [2, 7, 8, 10, 11, 12, 45] [] ?_|refine rg 12 [] [6] [] ?_|refine rg 13 [7, 8, 10, 11] [6] [(3, 49), (8, 54)] ?_|refine nc ?_);simp (maxSteps := 1000000) [hF])
 refine ⟨fun hlt => ?_, fun hge => ?_⟩
 ·repeat first|refine n1 ?_|refine n2 ?_|refine n3 ?_|refine n4 ?_|refine n5 ?_|refine n6 ?_|refine n7 ?_|refine n8 ?_|refine n9 ?_|refine n0 ?_|refine ⟨⟨by omega, by omega⟩, ?_⟩|((first|refine rg 0 [0, 1, 2] [0, 1, 2] [] ?_|refine rg 1 [0, 1, 2] [2, 7, 8, 9] [] ?_|refine rg 2 [2, 7, 8, 9] [2, 7, 8, 21] [] ?_|refine rg 3 [] [6] [] ?_|refine rg 4 [2, 7, 8] [2, 7, 8, 10] [] ?_|refine rg 5 [2, 7, 8, 10] [2, 7, 8, 10, 11] [] ?_|refine rg 6 [2, 7, 8, 10, 11] [2, 7, 8, 10, 11, 27] [] ?_|refine rg 7 [] [6] [] ?_|refine rg 8 [2, 7, 8, 10, 11] [2, 7, 8, 10, 11, 12] [] ?_|refine rg 9 [2, 7, 8, 10, 11, 12] [2, 7, 8, 10, 11, 12, 35] [(4, 32)] ?_|refine rg 10 [2, 7, 8, 10, 11, 12] [2, 7, 8, 10, 11, 12] [] ?_|refine rg 11 [2, 7, 8, 10, 11, 12] [2, 7, 8, 10, 11, 12, 45] [] ?_|refine rg 12 [] [6] [] ?_|refine rg 13 [7, 8, 10, 11] [6] [(3, 49), (8, 54)] ?_|refine nc ?_);simp (maxSteps := 1000000) [hF])
  refine ⟨fun h90 => ?_, fun h90 => ?_⟩
  ·have hlt' : i < M.length := by omega
   have hn1 := dLds_nth hlt'
   repeat first|refine n1 ?_|refine n2 ?_|refine n3 ?_|refine n4 ?_|refine n5 ?_|refine n6 ?_|refine n7 ?_|refine n8 ?_|refine n9 ?_|refine n0 ?_|refine ⟨⟨by omega, by omega⟩, ?_⟩|((first|refine rg 0 [0, 1, 2] [0, 1, 2] [] ?_|refine rg 1 [0, 1, 2] [2, 7, 8, 9] [] ?_|refine rg 2 [2, 7, 8, 9] [2, 7, 8, 21] [] ?_|refine rg 3 [] [6] [] ?_|refine rg 4 [2, 7, 8] [2, 7, 8, 10] [] ?_|refine rg 5 [2, 7, 8, 10] [2, 7, 8, 10, 11] [] ?_|refine rg 6 [2, 7, 8, 10, 11] [2, 7, 8, 10, 11, 27] [] ?_|refine rg 7 [] [6] [] ?_|refine rg 8 [2, 7, 8, 10, 11] [2, 7, 8, 10, 11, 12] [] ?_|refine rg 9 [2, 7, 8, 10, 11, 12] [2, 7, 8, 10, 11, 12, 35] [(4, 32)] ?_|refine rg 10 [2, 7, 8, 10, 11, 12] [2, 7, 8, 10, 11, 12] [] ?_|refine rg 11 [2, 7, 8, 10, 11, 12] [2, 7, 8, 10, 11, 12, 45] [] ?_|refine rg 12 [] [6] [] ?_|refine rg 13 [7, 8, 10, 11] [6] [(3, 49), (8, 54)] ?_|refine nc ?_);simp (maxSteps := 1000000) [hF, hn1, hlt'])
   refine (does_ok f (by omega) M[i]).go [(2, []), (3, [])] (by simp (maxSteps := 1000000) [hF, avLd, dHp, eHp]) ?_;rintro av X κ ⟨rfl, rfl, rfl⟩;simp (maxSteps := 1000000) [hF, avLd, dHp, eHp]
   repeat first|refine n1 ?_|refine n2 ?_|refine n3 ?_|refine n4 ?_|refine n5 ?_|refine n6 ?_|refine n7 ?_|refine n8 ?_|refine n9 ?_|refine n0 ?_|refine ⟨⟨by omega, by omega⟩, ?_⟩|((first|refine rg 0 [0, 1, 2] [0, 1, 2] [] ?_|refine rg 1 [0, 1, 2] [2, 7, 8, 9] [] ?_|refine rg 2 [2, 7, 8, 9] [2, 7, 8, 21] [] ?_|refine rg 3 [] [6] [] ?_|refine rg 4 [2, 7, 8] [2, 7, 8, 10] [] ?_|refine rg 5 [2, 7, 8, 10] [2, 7, 8, 10, 11] [] ?_|refine rg 6 [2, 7, 8, 10, 11] [2, 7, 8, 10, 11, 27] [] ?_|refine rg 7 [] [6] [] ?_|refine rg 8 [2, 7, 8, 10, 11] [2, 7, 8, 10, 11, 12] [] ?_|refine rg 9 [2, 7, 8, 10, 11, 12] [2, 7, 8, 10, 11, 12, 35] [(4, 32)] ?_|refine rg 10 [2, 7, 8, 10, 11, 12] [2, 7, 8, 10, 11, 12] [] ?_|refine rg 11 [2, 7, 8, 10, 11, 12] [2, 7, 8, 10, 11, 12, 45] [] ?_|refine rg 12 [] [6] [] ?_|refine rg 13 [7, 8, 10, 11] [6] [(3, 49), (8, 54)] ?_|refine nc ?_);simp (maxSteps := 1000000) [hF, hw])
   refine nextK.of [2, 7, 8, 10, 11, 12] [0, 1, 2, 3] (m - 1) (by omega) (by simp [hF]) ?_
   exact ⟨i + 1, _, by omega, by omega, doE_fit f M[i], by simp [dHp, eHp]⟩
  ·repeat first|refine n1 ?_|refine n2 ?_|refine n3 ?_|refine n4 ?_|refine n5 ?_|refine n6 ?_|refine n7 ?_|refine n8 ?_|refine n9 ?_|refine n0 ?_|refine ⟨⟨by omega, by omega⟩, ?_⟩|((first|refine rg 0 [0, 1, 2] [0, 1, 2] [] ?_|refine rg 1 [0, 1, 2] [2, 7, 8, 9] [] ?_|refine rg 2 [2, 7, 8, 9] [2, 7, 8, 21] [] ?_|refine rg 3 [] [6] [] ?_|refine rg 4 [2, 7, 8] [2, 7, 8, 10] [] ?_|refine rg 5 [2, 7, 8, 10] [2, 7, 8, 10, 11] [] ?_|refine rg 6 [2, 7, 8, 10, 11] [2, 7, 8, 10, 11, 27] [] ?_|refine rg 7 [] [6] [] ?_|refine rg 8 [2, 7, 8, 10, 11] [2, 7, 8, 10, 11, 12] [] ?_|refine rg 9 [2, 7, 8, 10, 11, 12] [2, 7, 8, 10, 11, 12, 35] [(4, 32)] ?_|refine rg 10 [2, 7, 8, 10, 11, 12] [2, 7, 8, 10, 11, 12] [] ?_|refine rg 11 [2, 7, 8, 10, 11, 12] [2, 7, 8, 10, 11, 12, 45] [] ?_|refine rg 12 [] [6] [] ?_|refine rg 13 [7, 8, 10, 11] [6] [(3, 49), (8, 54)] ?_|refine nc ?_);simp (maxSteps := 1000000) [hF])
   refine (alike_c g f.fine.ok (by have := f.next; omega) (f.wl (by omega))).go [(3, []), (2, [])] (by simp (maxSteps := 1000000) [hF, dHp, eHp]) ?_;rintro av X κ ⟨rfl, rfl, rfl⟩;simp (maxSteps := 1000000) [hF, dHp, eHp]
   refine (alike_c h k hnx hwl).go [(1, []), (0, [])] (by simp (maxSteps := 1000000) [hF, dHp, eHp]) ?_;rintro av X κ ⟨rfl, rfl, rfl⟩;simp (maxSteps := 1000000) [hF, dHp, eHp]
   refine (sane_ok).go [] (by simp (maxSteps := 1000000) [hF]) ?_;rintro av X κ ⟨rfl, rfl, rfl⟩;simp (maxSteps := 1000000) [hF]
   repeat first|refine n1 ?_|refine n2 ?_|refine n3 ?_|refine n4 ?_|refine n5 ?_|refine n6 ?_|refine n7 ?_|refine n8 ?_|refine n9 ?_|refine n0 ?_|refine ⟨⟨by omega, by omega⟩, ?_⟩|((first|refine rg 0 [0, 1, 2] [0, 1, 2] [] ?_|refine rg 1 [0, 1, 2] [2, 7, 8, 9] [] ?_|refine rg 2 [2, 7, 8, 9] [2, 7, 8, 21] [] ?_|refine rg 3 [] [6] [] ?_|refine rg 4 [2, 7, 8] [2, 7, 8, 10] [] ?_|refine rg 5 [2, 7, 8, 10] [2, 7, 8, 10, 11] [] ?_|refine rg 6 [2, 7, 8, 10, 11] [2, 7, 8, 10, 11, 27] [] ?_|refine rg 7 [] [6] [] ?_|refine rg 8 [2, 7, 8, 10, 11] [2, 7, 8, 10, 11, 12] [] ?_|refine rg 9 [2, 7, 8, 10, 11, 12] [2, 7, 8, 10, 11, 12, 35] [(4, 32)] ?_|refine rg 10 [2, 7, 8, 10, 11, 12] [2, 7, 8, 10, 11, 12] [] ?_|refine rg 11 [2, 7, 8, 10, 11, 12] [2, 7, 8, 10, 11, 12, 45] [] ?_|refine rg 12 [] [6] [] ?_|refine rg 13 [7, 8, 10, 11] [6] [(3, 49), (8, 54)] ?_|refine nc ?_);simp (maxSteps := 1000000) [hF])
   (try refine nr ?_);(repeat first|refine nb_ ?_|refine nl_ ?_);refine endK.o [6] [] [] ?_;simp [hF, retK, covers, mpre]
 ·repeat first|refine n1 ?_|refine n2 ?_|refine n3 ?_|refine n4 ?_|refine n5 ?_|refine n6 ?_|refine n7 ?_|refine n8 ?_|refine n9 ?_|refine n0 ?_|refine ⟨⟨by omega, by omega⟩, ?_⟩|((first|refine rg 0 [0, 1, 2] [0, 1, 2] [] ?_|refine rg 1 [0, 1, 2] [2, 7, 8, 9] [] ?_|refine rg 2 [2, 7, 8, 9] [2, 7, 8, 21] [] ?_|refine rg 3 [] [6] [] ?_|refine rg 4 [2, 7, 8] [2, 7, 8, 10] [] ?_|refine rg 5 [2, 7, 8, 10] [2, 7, 8, 10, 11] [] ?_|refine rg 6 [2, 7, 8, 10, 11] [2, 7, 8, 10, 11, 27] [] ?_|refine rg 7 [] [6] [] ?_|refine rg 8 [2, 7, 8, 10, 11] [2, 7, 8, 10, 11, 12] [] ?_|refine rg 9 [2, 7, 8, 10, 11, 12] [2, 7, 8, 10, 11, 12, 35] [(4, 32)] ?_|refine rg 10 [2, 7, 8, 10, 11, 12] [2, 7, 8, 10, 11, 12] [] ?_|refine rg 11 [2, 7, 8, 10, 11, 12] [2, 7, 8, 10, 11, 12, 45] [] ?_|refine rg 12 [] [6] [] ?_|refine rg 13 [7, 8, 10, 11] [6] [(3, 49), (8, 54)] ?_|refine nc ?_);simp (maxSteps := 1000000) [hF])
  refine (alike_c g f.fine.ok (by have := f.next; omega) (f.wl (by omega))).go [(3, []), (2, [])] (by simp (maxSteps := 1000000) [hF, dHp, eHp]) ?_;rintro av X κ ⟨rfl, rfl, rfl⟩;simp (maxSteps := 1000000) [hF, dHp, eHp]
  refine (alike_c h k hnx hwl).go [(1, []), (0, [])] (by simp (maxSteps := 1000000) [hF, dHp, eHp]) ?_;rintro av X κ ⟨rfl, rfl, rfl⟩;simp (maxSteps := 1000000) [hF, dHp, eHp]
  refine (sane_ok).go [] (by simp (maxSteps := 1000000) [hF]) ?_;rintro av X κ ⟨rfl, rfl, rfl⟩;simp (maxSteps := 1000000) [hF]
  repeat first|refine n1 ?_|refine n2 ?_|refine n3 ?_|refine n4 ?_|refine n5 ?_|refine n6 ?_|refine n7 ?_|refine n8 ?_|refine n9 ?_|refine n0 ?_|refine ⟨⟨by omega, by omega⟩, ?_⟩|((first|refine rg 0 [0, 1, 2] [0, 1, 2] [] ?_|refine rg 1 [0, 1, 2] [2, 7, 8, 9] [] ?_|refine rg 2 [2, 7, 8, 9] [2, 7, 8, 21] [] ?_|refine rg 3 [] [6] [] ?_|refine rg 4 [2, 7, 8] [2, 7, 8, 10] [] ?_|refine rg 5 [2, 7, 8, 10] [2, 7, 8, 10, 11] [] ?_|refine rg 6 [2, 7, 8, 10, 11] [2, 7, 8, 10, 11, 27] [] ?_|refine rg 7 [] [6] [] ?_|refine rg 8 [2, 7, 8, 10, 11] [2, 7, 8, 10, 11, 12] [] ?_|refine rg 9 [2, 7, 8, 10, 11, 12] [2, 7, 8, 10, 11, 12, 35] [(4, 32)] ?_|refine rg 10 [2, 7, 8, 10, 11, 12] [2, 7, 8, 10, 11, 12] [] ?_|refine rg 11 [2, 7, 8, 10, 11, 12] [2, 7, 8, 10, 11, 12, 45] [] ?_|refine rg 12 [] [6] [] ?_|refine rg 13 [7, 8, 10, 11] [6] [(3, 49), (8, 54)] ?_|refine nc ?_);simp (maxSteps := 1000000) [hF])
  (try refine nr ?_);(repeat first|refine nb_ ?_|refine nl_ ?_);refine endK.o [6] [] [] ?_;simp [hF, retK, covers, mpre]
end Go.Proofs.YtfdcfjjobdnofaaGreat

/- Proved: HeapCopies returns true for every input, and its arguments read behind the call as before. No condition. -/
namespace Go.Proofs.YtfdcfjjobdnofaaGreat.heapCopies
set_option linter.all false
open Go.Vc Go.ChangeShapes Go.WideShapes Go.ChangeAt Go.RowKit
set_option linter.unusedVariables false

theorem own : ownKnob Tryz.prog.godebug = none := by kernel_rfl
theorem laid : laidOutB Tryz.prog = true := by kernel_rfl

set_option maxRecDepth 100000 in
theorem lifted (os : Os) (started : os.Started) (H : Type) (enc : TypeId × Value → H) :
    ReturnsInHanded {} Tryz.checked os 3 .any (Rows.heapCopiesSpec.pre6 enc Tryz.prog Tryz.f3 Rows.heapCopiesRow.domain false) (Rows.heapCopiesSpec.post enc Tryz.prog Tryz.f3 false true false false) := by
  refine returnsInHanded_of_change (C := Tryz.checked) own started (by kernel_rfl) Tryz.func3
    (ChangeSpec.witness6 (enc := enc) (C := Tryz.checked) false ⟨#[], #[.int .i64 0, .slice none 0 0, .slice none 0 0], []⟩ 8 (by kernel_rfl) (by kernel_rfl) (by kernel_rfl) (by kernel_rfl)) ?_
  intro W base args ds gs before hval0 hW hcnd _
  have hval : ∀ (j : Nat) t v, Tryz.f3.params[j]? = some t → args[j]? = some v → Value.okWide Tryz.prog W .any base t v := hval0
  have hW' := hW
  obtain ⟨p, q, hA0, hV, rfl, hfz, hnd⟩ := hW
  have hA : DataW.TrodAll enc Tryz.prog W 0 (fun _ => true) true Tryz.f3.params.toList args.toList ds p := hA0
  rw [Tryz.params3] at hA hval
  obtain ⟨v0, vs0, d0, ds0, p0, q0, hargs0, rfl, rfl, h0, r0⟩ := trodAll_cons hA
  obtain ⟨v1, vs1, d1, ds1, p1, q1, hargs1, rfl, rfl, h1, r1⟩ := trodAll_cons r0
  obtain ⟨v2, vs2, d2, ds2, p2, q2, hargs2, rfl, rfl, h2, r2⟩ := trodAll_cons r1
  obtain ⟨rfl, rfl, rfl⟩ := trodAll_nil r2
  subst hargs2
  subst hargs1
  obtain rfl : args = #[v0, v1, v2] := by cases args; simp_all
  obtain ⟨rfl, rfl⟩ := trodVars_none hV
  obtain ⟨a0, hr0⟩ := int_of (hval 0 3 v0 rfl rfl) h0
  obtain ⟨a1, hlen1, hr1⟩ := deeds_of (hval 1 22 v1 rfl rfl) h1
  obtain ⟨a2, hlen2, hr2⟩ := deeds_of (hval 2 22 v2 rfl rfl) h2
  clear hA0 hval0
  have hwalk : Calls Tryz.prog 3 #[v0, v1, v2] W fun e w' => e = .returned (.bool true) ∧ Below W.heap.size W w' :=
    Meets.law (copies_ok a0 a1 a2 false false) (vs := [v0, v1, v2]) (I := allB W) (fun _ h => h) ⟨v0, _, rfl, hr0, ⟨v1, _, rfl, hr1, ⟨v2, _, rfl, hr2, rfl⟩⟩⟩
  refine hwalk.mono fun e W' ⟨he, bel⟩ => ?_
  subst he
  exact ⟨_, rfl, _, _, _, [], _, [], hW', trodAll_mk1 (shut_bool Tryz.underlying4 _), (trodAll_cons_mk (Below.trod laid (by kernel_rfl) (of_decide_eq_true (by kernel_rfl)) h0 bel fun x hx => hW'.lt x (by simp [hx])) (trodAll_cons_mk (Below.trod laid (by kernel_rfl) (of_decide_eq_true (by kernel_rfl)) h1 bel fun x hx => hW'.lt x (by simp [hx])) (trodAll_cons_mk (Below.trod laid (by kernel_rfl) (of_decide_eq_true (by kernel_rfl)) h2 bel fun x hx => hW'.lt x (by simp [hx])) trodAll_mk0))), rfl, bel.frame _, fun h => by cases h⟩

theorem over : Rows.heapCopiesRow.holds Tryz.pinned (OpenSpec.ofChange Rows.heapCopiesSpec) :=
  OpenClaim.holds_of_wide 3 Tryz.f3 rfl rfl rfl rfl rfl rfl rfl ⟨rfl, rfl, rfl, rfl, rfl⟩ rfl rfl rfl rfl rfl (by kernel_rfl) Tryz.func3 (by kernel_rfl)
    (of_decide_eq_true (by kernel_rfl)) (by unfold Func.isWrapper; first | (rw [if_pos (by decide +kernel)]; kernel_rfl) | (rw [if_neg (by decide +kernel)]; exact ⟨rfl, rfl⟩))
    (fun os started H enc _ => lifted os started H enc)

/-- THE STATEMENT -/
theorem proved : Rows.HeapCopiesSaid :=
  over
end Go.Proofs.YtfdcfjjobdnofaaGreat.heapCopies
