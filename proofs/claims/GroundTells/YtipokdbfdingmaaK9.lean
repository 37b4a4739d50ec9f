/- Play. -/
import Derived.Test.YtipokdbfdingmaaK7
import Derived.Test.YtipokdbfdingmaaK5
import Derived.MapKept
import Derived.ChangeReads
import Derived.Test.YtipokdbfdingmaaK8
import Derived.SizedLaws
import Derived.Test.YtipokdbfdingmaaRows
import Derived.WalkKit
import Derived.ProofKit
import Derived.OpenShut
import Derived.ShutString
import Derived.ChangeOld
import Derived.Carry
namespace Go.Proofs.Ytipokdbfdingmaa
set_option linter.all false
open Go.Vc Go.Proofs
set_option linter.unusedSimpArgs false
set_option linter.unusedVariables false
set_option maxRecDepth 100000
set_option maxHeartbeats 4000000
attribute [local irreducible] CallW EqK
structure Pd where
 d : Int
 u : Int
 o : Int
 k : ByteArray
def toP (x : Pd) : Gd := ⟨x.d, x.u, x.o, x.k, [x.k]⟩
def dPd (d : Pd) : D := .agg (.cons (.val (.int .i64 d.d)) (.cons (.val (.int .i64 d.u)) (.cons (.val (.int .i64 d.o)) (.cons (.val (.string d.k)) .nil))))
def dPds (l : List Pd) : D := sq (l.map dPd)
@[simp] theorem dPds_len (l : List Pd) : (dPds l).len = l.length := by simp [dPds]
@[simp] theorem dPds_free (l : List Pd) : (dPds l).free = true := sq_free fun x hx => by obtain ⟨n, _, rfl⟩ := List.mem_map.1 hx; simp [dPd]
theorem dPds_nth {l : List Pd} {i : Nat} (h : i < l.length) : (dPds l).nth i = .agg (.cons (.val (.int .i64 l[i].d)) (.cons (.val (.int .i64 l[i].u)) (.cons (.val (.int .i64 l[i].o)) (.cons (.val (.string l[i].k)) .nil)))) := by
 rw [dPds, sq_nth_lt (by simpa using h)]; simp; rfl
def dLL (P : List (List Nat)) : D := sq (P.map fun l => .sl true () 1 (dInts (nats l)))
@[simp] theorem dLL_len (P : List (List Nat)) : (dLL P).len = P.length := by simp [dLL]
@[simp] theorem dLL_nil : dLL [] = .nil := rfl
theorem dLL_push (P : List (List Nat)) (l : List Nat) : (dLL P).app (.cons (.sl true () 1 (dInts (nats l))) .nil) = dLL (P ++ [l]) := by
 simp only [dLL, List.map_append, ← sq_app]; rfl
theorem dLL_mid (P : List (List Nat)) : (dLL P).mid 0 P.length = dLL P := sq_mid_all _ _ (by simp)
theorem dLL_mid1 (P : List (List Nat)) (l : List Nat) : (dLL (P ++ [l])).mid 0 (P.length + 1) = dLL (P ++ [l]) := sq_mid_all _ _ (by simp)
theorem dLL_nth {P : List (List Nat)} {i : Nat} (h : i < P.length) : (dLL P).nth i = .sl true () 1 (dInts (nats P[i])) := by
 rw [dLL, sq_nth_lt (by simpa using h)]; simp
theorem one_nats (n : Nat) : (.cons (.val (.int .i64 n)) .nil : D) = dInts (nats [n]) := rfl
@[simp] theorem own_dLL (P : List (List Nat)) : (dLL P).allOwn = true := own_sq fun x hx => by obtain ⟨c, _, rfl⟩ := List.mem_map.1 hx; simp [T.allOwn]
theorem play_bad (L : List Pd) (ex : Bool) (hL : 300 < L.length) : Meets Try.prog 19 [] (.cons (.imm 4 (dPds L) ex) .nil) fun av X κ => av = avTwo (.nils 1) 1 ∧ X = [] ∧ κ = [] := by
 have hLi : (300 : Int) < L.length := by omega
 refine fb Try.func19 Try.ntmps19 [.tmp 2, .tmp 3] fun w0 I0 F0 hF => ?_
 repeat first|refine n1 ?_|((first|refine rg 0 [0] [0] [] ?_|refine rg 1 [0] [0, 13] [] ?_|refine rg 2 [] [2, 3] [] ?_|refine nc ?_);simp (maxSteps := 1000000) [hF, hL, hLi])
 (try refine nr ?_);(repeat first|refine nb_ ?_|refine nl_ ?_);refine endK.o [2, 3] [] [] ?_;simp [hF, retK, covers, mpre]
theorem play_ok (L : List Pd) (ex : Bool) (hL : L.length ≤ 300) : Meets Try.prog 19 [] (.cons (.imm 4 (dPds L) ex) .nil)
  fun av X κ => av = avTwo (.sub 0 [] 0 L.length false) 0 ∧ X = [.sl true () 1 (dLL (tellsG bornB (L.map toP)))] ∧ κ = [] := by
 have hLi : ¬ (300 : Int) < L.length := by omega
 have hL2 : ¬ 300 < L.length := by omega
 refine fb Try.func19 Try.ntmps19 [.tmp 2, .tmp 3] fun w0 I0 F0 hF => ?_
 repeat first|refine n1 ?_|refine n2 ?_|((first|refine rg 0 [0] [0] [] ?_|refine rg 1 [0] [0, 13] [] ?_|refine rg 3 [0] [0, 4] [] ?_|refine nc ?_);simp (maxSteps := 1000000) [hF, hLi, hL2])
 refine (new_ok).go [] (by simp (maxSteps := 1000000) [hF]) ?_;rintro av X κ ⟨rfl, rfl, rfl⟩;simp (maxSteps := 1000000) [hF]
 repeat first|refine n1 ?_|refine n3 ?_|((first|refine rg 4 [0, 4] [0, 4, 5] [] ?_|refine rg 5 [0, 4, 5] [4, 5, 15, 16, 17] [] ?_);simp (maxSteps := 1000000) [hF])
 refine VS.hold0 5 1 (by simp) ?_
 refine VS.pick [4, 5, 15, 16, 17] [0, 1] (by simp [hF]) ?_;simp [hF]
 refine VS.rounds (fun m st => ∃ (i : Nat) (g : Gb) (P : List (List Nat)), i + m = L.length ∧ g = bookG bornB ((L.map toP).take i) ∧ Fb i g ∧ P = tellsG bornB ((L.map toP).take i) ∧ st = ⟨[(4, .ptr 0 [.d]), (5, .sub 1 [] 0 P.length false), (15, .imm 4 (dPds L) ex), (16, avInt L.length), (17, avInt i)],
  [dBk g, .sl true () 1 (dLL P)], [], []⟩) ⟨L.length, 0, bornB, [], by omega, by simp [bookG], fb_born, by simp [tellsG], by simp [dBk]⟩ ?_
 rintro m st ⟨i, g, P, hi, hg, hf, hP, rfl⟩
 have hPl : P.length = i := by rw [hP, tellsG_len, List.length_take, List.length_map]; omega
 repeat first|refine n1 ?_|((first|refine rg 6 [4, 5, 15, 16, 17] [4, 5, 15, 16, 17, 18] [] ?_|refine nc ?_);simp (maxSteps := 1000000) [hF])
 refine ⟨fun hlt => ?_, fun hge => ?_⟩
 ·have hlt' : i < L.length := by omega
  have hn1 := dPds_nth hlt'
  have hltm : i < (L.map toP).length := by simpa using hlt'
  have htk := take_snoc hltm
  have hg' : (doG g (toP L[i])).1 = bookG bornB ((L.map toP).take (i + 1)) := by rw [htk, bookG_snoc, ← hg]; simp
  have hP' : P ++ [(doG g (toP L[i])).2] = tellsG bornB ((L.map toP).take (i + 1)) := by rw [htk, tellsG_app, ← hP, ← hg]; simp
  have hw : IntKind.i64.wrap ((i : Int) + 1) = (i + 1 : Nat) := by rw [IntWalk.i64_in _ (by omega)]; rfl
  have c1 : (P.length + 1) * 24 ≤ 140737488355328 := by omega
  have c2 : P.length ≤ 9223372036854775806 := by omega
  have hf' : Fb (i + 1) (doG g (toP L[i])).1 := fb_do hf _
  have hdd : toP L[i] = ⟨L[i].d, L[i].u, L[i].o, L[i].k, [L[i].k]⟩ := rfl
  have hpu := dLL_push P (doG g (toP L[i])).2
  have hm1 := dLL_mid1 P (doG g (toP L[i])).2
  have hm0 := dLL_mid P
  have b := hf.bk
  have h1k : strs [L[i].k] = .cons (.val (.string L[i].k)) .nil := rfl
  generalize L[i] = d at *
  obtain ⟨d, u, o, k⟩ := d
  simp only [toP] at *
  by_cases h0 : d = 0
  ·subst h0
   by_cases hz : (unitOf g [k]).2.2 = 0
   ·have hc : doG g ⟨0, u, o, k, [k]⟩ = ((unitOf g [k]).1, [g.units.length]) := by simp [doG, hz]
    have hno := unit_no hz
    rw [hc] at hg' hP' hf' hpu hm1
    simp only [← one_nats] at hpu
    repeat first|refine n1 ?_|refine n2 ?_|refine n3 ?_|((first|refine rg 7 [4, 5, 15, 16, 17] [4, 5, 7, 15, 16, 17] [] ?_|refine rg 8 [4, 5, 7, 15, 16, 17] [4, 5, 7, 8, 15, 16, 17] [] ?_|refine rg 9 [4, 5, 7, 8, 15, 16, 17] [4, 5, 7, 8, 15, 16, 17, 22] [] ?_|refine rg 10 [4, 5, 7, 8, 15, 16, 17, 22] [4, 5, 7, 8, 15, 16, 17, 22, 23] [] ?_|refine rg 11 [4, 5, 7, 8, 15, 16, 17] [4, 5, 8, 9, 10, 15, 16, 17] [] ?_|refine nc ?_);simp (maxSteps := 1000000) [hF, hn1, hlt'])
    refine (unit_w g b true [k] (by simp) (by simp)).go [(3, []), (0, [])] (by simp (maxSteps := 1000000) [hF, dBk, h1k, hz, hno]) ?_;rintro av X κ ⟨rfl, rfl, rfl⟩;simp (maxSteps := 1000000) [hF, dBk, h1k, hz, hno]
    repeat first|refine n1 ?_|refine n4 ?_|refine n5 ?_|((first|refine rg 12 [4, 5, 8, 9, 10, 15, 16, 17] [4, 5, 8, 9, 15, 16, 17, 34] [] ?_|refine rg 13 [4, 5, 9, 15, 16, 17] [4, 5, 8, 15, 16, 17] [] ?_|refine nc ?_);simp (maxSteps := 1000000) [hF, hz, hno])
    repeat first|refine n4 ?_|refine n5 ?_|refine n6 ?_|((first|refine rg 24 [4, 5, 8, 15, 16, 17] [4, 5, 15, 16, 17] [] ?_|refine rg 25 [4, 5, 15, 16, 17] [4, 5, 15, 16, 17] [] ?_);simp (maxSteps := 1000000) [hF, hz, hno, hpu, hm1, hm0, c1, c2, hw])
    refine nextK.of [4, 5, 15, 16, 17] [0, 1] (m - 1) (by omega) (by simp [hF]) ?_
    exact ⟨i + 1, _, _, by omega, hg', hf', hP', by simp [dBk]⟩
   ·have hc : doG g ⟨0, u, o, k, [k]⟩ = ((unitOf g [k]).1, []) := by simp [doG, hz]
    rw [hc] at hg' hP' hf' hpu hm1
    simp only [nats_nil, dNil_ints] at hpu
    repeat first|refine n1 ?_|refine n2 ?_|refine n3 ?_|((first|refine rg 7 [4, 5, 15, 16, 17] [4, 5, 7, 15, 16, 17] [] ?_|refine rg 8 [4, 5, 7, 15, 16, 17] [4, 5, 7, 8, 15, 16, 17] [] ?_|refine rg 9 [4, 5, 7, 8, 15, 16, 17] [4, 5, 7, 8, 15, 16, 17, 22] [] ?_|refine rg 10 [4, 5, 7, 8, 15, 16, 17, 22] [4, 5, 7, 8, 15, 16, 17, 22, 23] [] ?_|refine rg 11 [4, 5, 7, 8, 15, 16, 17] [4, 5, 8, 9, 10, 15, 16, 17] [] ?_|refine nc ?_);simp (maxSteps := 1000000) [hF, hn1, hlt'])
    refine (unit_w g b true [k] (by simp) (by simp)).go [(3, []), (0, [])] (by simp (maxSteps := 1000000) [hF, dBk, h1k, hz]) ?_;rintro av X κ ⟨rfl, rfl, rfl⟩;simp (maxSteps := 1000000) [hF, dBk, h1k, hz]
    repeat first|refine n1 ?_|refine n2 ?_|refine n4 ?_|refine n5 ?_|((first|refine rg 12 [4, 5, 8, 9, 10, 15, 16, 17] [4, 5, 8, 9, 15, 16, 17, 34] [] ?_|refine nc ?_);simp (maxSteps := 1000000) [hF, hz])
    refine VS.hold0 8 1 (by simp) ?_
    repeat first|refine n4 ?_|refine n5 ?_|refine n6 ?_|((first|refine rg 24 [4, 5, 8, 15, 16, 17] [4, 5, 15, 16, 17] [] ?_|refine rg 25 [4, 5, 15, 16, 17] [4, 5, 15, 16, 17] [] ?_);simp (maxSteps := 1000000) [hF, hpu, hm1, hm0, c1, c2, hw])
    refine nextK.of [4, 5, 15, 16, 17] [0, 1] (m - 1) (by omega) (by simp [hF]) ?_
    exact ⟨i + 1, _, _, by omega, hg', hf', hP', by simp [dBk]⟩
  by_cases h1 : d = 1
  ·subst h1
   have hc : doG g ⟨1, u, o, k, [k]⟩ = ((relyOf g u k).1, []) := by simp [doG]
   rw [hc] at hg' hP' hf' hpu hm1
   simp only [nats_nil, dNil_ints] at hpu
   repeat first|refine n1 ?_|refine n2 ?_|refine n3 ?_|((first|refine rg 7 [4, 5, 15, 16, 17] [4, 5, 7, 15, 16, 17] [] ?_|refine rg 8 [4, 5, 7, 15, 16, 17] [4, 5, 7, 8, 15, 16, 17] [] ?_|refine rg 9 [4, 5, 7, 8, 15, 16, 17] [4, 5, 7, 8, 15, 16, 17, 22] [] ?_|refine rg 10 [4, 5, 7, 8, 15, 16, 17, 22] [4, 5, 7, 8, 15, 16, 17, 22, 23] [] ?_|refine rg 14 [4, 5, 7, 8, 15, 16, 17, 22] [4, 5, 7, 8, 15, 16, 17, 22, 37] [] ?_|refine rg 15 [4, 5, 7, 8, 15, 16, 17] [4, 5, 8, 15, 16, 17] [] ?_|refine nc ?_);simp (maxSteps := 1000000) [hF, hn1, hlt'])
   refine (rely_c g b u k).go [(0, [])] (by simp (maxSteps := 1000000) [hF, dBk]) ?_;rintro av X κ ⟨rfl, rfl, rfl⟩;simp (maxSteps := 1000000) [hF, dBk]
   repeat first|refine n4 ?_|refine n5 ?_
   refine VS.hold0 8 1 (by simp) ?_
   repeat first|refine n4 ?_|refine n5 ?_|refine n6 ?_|((first|refine rg 24 [4, 5, 8, 15, 16, 17] [4, 5, 15, 16, 17] [] ?_|refine rg 25 [4, 5, 15, 16, 17] [4, 5, 15, 16, 17] [] ?_);simp (maxSteps := 1000000) [hF, hpu, hm1, hm0, c1, c2, hw])
   refine nextK.of [4, 5, 15, 16, 17] [0, 1] (m - 1) (by omega) (by simp [hF]) ?_
   exact ⟨i + 1, _, _, by omega, hg', hf', hP', by simp [dBk]⟩
  by_cases h2 : d = 2
  ·subst h2
   have hc : doG g ⟨2, u, o, k, [k]⟩ = ((intoOf g u o).1, []) := by simp [doG]
   rw [hc] at hg' hP' hf' hpu hm1
   simp only [nats_nil, dNil_ints] at hpu
   repeat first|refine n1 ?_|refine n2 ?_|refine n3 ?_|((first|refine rg 7 [4, 5, 15, 16, 17] [4, 5, 7, 15, 16, 17] [] ?_|refine rg 8 [4, 5, 7, 15, 16, 17] [4, 5, 7, 8, 15, 16, 17] [] ?_|refine rg 9 [4, 5, 7, 8, 15, 16, 17] [4, 5, 7, 8, 15, 16, 17, 22] [] ?_|refine rg 10 [4, 5, 7, 8, 15, 16, 17, 22] [4, 5, 7, 8, 15, 16, 17, 22, 23] [] ?_|refine rg 14 [4, 5, 7, 8, 15, 16, 17, 22] [4, 5, 7, 8, 15, 16, 17, 22, 37] [] ?_|refine rg 16 [4, 5, 7, 8, 15, 16, 17, 22] [4, 5, 7, 8, 15, 16, 17, 22, 45] [] ?_|refine rg 17 [4, 5, 7, 8, 15, 16, 17] [4, 5, 8, 15, 16, 17] [] ?_|refine nc ?_);simp (maxSteps := 1000000) [hF, hn1, hlt'])
   refine (into_c g b u o).go [(0, [])] (by simp (maxSteps := 1000000) [hF, dBk]) ?_;rintro av X κ ⟨rfl, rfl, rfl⟩;simp (maxSteps := 1000000) [hF, dBk]
   repeat first|refine n4 ?_|refine n5 ?_
   refine VS.hold0 8 1 (by simp) ?_
   repeat first|refine n4 ?_|refine n5 ?_|refine n6 ?_|((first|refine rg 24 [4, 5, 8, 15, 16, 17] [4, 5, 15, 16, 17] [] ?_|refine rg 25 [4, 5, 15, 16, 17] [4, 5, 15, 16, 17] [] ?_);simp (maxSteps := 1000000) [hF, hpu, hm1, hm0, c1, c2, hw])
   refine nextK.of [4, 5, 15, 16, 17] [0, 1] (m - 1) (by omega) (by simp [hF]) ?_
   exact ⟨i + 1, _, _, by omega, hg', hf', hP', by simp [dBk]⟩
  by_cases h3 : d = 3
  ·subst h3
   have hc : doG g ⟨3, u, o, k, [k]⟩ = ((moveOf g k).1, (moveOf g k).2.1) := by simp [doG]
   rw [hc] at hg' hP' hf' hpu hm1
   dsimp only at hpu hm1
   repeat first|refine n1 ?_|refine n2 ?_|refine n3 ?_|((first|refine rg 7 [4, 5, 15, 16, 17] [4, 5, 7, 15, 16, 17] [] ?_|refine rg 8 [4, 5, 7, 15, 16, 17] [4, 5, 7, 8, 15, 16, 17] [] ?_|refine rg 9 [4, 5, 7, 8, 15, 16, 17] [4, 5, 7, 8, 15, 16, 17, 22] [] ?_|refine rg 10 [4, 5, 7, 8, 15, 16, 17, 22] [4, 5, 7, 8, 15, 16, 17, 22, 23] [] ?_|refine rg 14 [4, 5, 7, 8, 15, 16, 17, 22] [4, 5, 7, 8, 15, 16, 17, 22, 37] [] ?_|refine rg 16 [4, 5, 7, 8, 15, 16, 17, 22] [4, 5, 7, 8, 15, 16, 17, 22, 45] [] ?_|refine rg 18 [4, 5, 7, 8, 15, 16, 17, 22] [4, 5, 7, 8, 15, 16, 17, 22, 53] [] ?_|refine rg 19 [4, 5, 7, 15, 16, 17] [4, 5, 8, 15, 16, 17] [] ?_|refine nc ?_);simp (maxSteps := 1000000) [hF, hn1, hlt'])
   refine (move_c g b (by omega) k).go [(0, [])] (by simp (maxSteps := 1000000) [hF, dBk]) ?_;rintro av X κ ⟨rfl, rfl, rfl⟩;simp (maxSteps := 1000000) [hF, dBk]
   repeat first|refine n4 ?_|refine n5 ?_
   repeat first|refine n4 ?_|refine n5 ?_|refine n6 ?_|((first|refine rg 24 [4, 5, 8, 15, 16, 17] [4, 5, 15, 16, 17] [] ?_|refine rg 25 [4, 5, 15, 16, 17] [4, 5, 15, 16, 17] [] ?_);simp (maxSteps := 1000000) [hF, hpu, hm1, hm0, c1, c2, hw])
   refine nextK.of [4, 5, 15, 16, 17] [0, 1] (m - 1) (by omega) (by simp [hF]) ?_
   exact ⟨i + 1, _, _, by omega, hg', hf', hP', by simp [dBk]⟩
  by_cases h4 : d = 4
  ·subst h4
   have hc : doG g ⟨4, u, o, k, [k]⟩ = ((renewOf g u [k]).1, []) := by simp [doG]
   rw [hc] at hg' hP' hf' hpu hm1
   simp only [nats_nil, dNil_ints] at hpu
   repeat first|refine n1 ?_|refine n2 ?_|refine n3 ?_|((first|refine rg 7 [4, 5, 15, 16, 17] [4, 5, 7, 15, 16, 17] [] ?_|refine rg 8 [4, 5, 7, 15, 16, 17] [4, 5, 7, 8, 15, 16, 17] [] ?_|refine rg 9 [4, 5, 7, 8, 15, 16, 17] [4, 5, 7, 8, 15, 16, 17, 22] [] ?_|refine rg 10 [4, 5, 7, 8, 15, 16, 17, 22] [4, 5, 7, 8, 15, 16, 17, 22, 23] [] ?_|refine rg 14 [4, 5, 7, 8, 15, 16, 17, 22] [4, 5, 7, 8, 15, 16, 17, 22, 37] [] ?_|refine rg 16 [4, 5, 7, 8, 15, 16, 17, 22] [4, 5, 7, 8, 15, 16, 17, 22, 45] [] ?_|refine rg 18 [4, 5, 7, 8, 15, 16, 17, 22] [4, 5, 7, 8, 15, 16, 17, 22, 53] [] ?_|refine rg 20 [4, 5, 7, 8, 15, 16, 17, 22] [4, 5, 7, 8, 15, 16, 17, 22, 62] [] ?_|refine rg 21 [4, 5, 7, 8, 15, 16, 17] [4, 5, 8, 15, 16, 17] [] ?_|refine nc ?_);simp (maxSteps := 1000000) [hF, hn1, hlt'])
   refine (renew_w g b u true [k] (by simp) (by simp)).go [(3, []), (0, [])] (by simp (maxSteps := 1000000) [hF, dBk, h1k]) ?_;rintro av X κ ⟨rfl, rfl, rfl⟩;simp (maxSteps := 1000000) [hF, dBk, h1k]
   repeat first|refine n4 ?_|refine n5 ?_
   refine VS.hold0 8 1 (by simp) ?_
   repeat first|refine n4 ?_|refine n5 ?_|refine n6 ?_|((first|refine rg 24 [4, 5, 8, 15, 16, 17] [4, 5, 15, 16, 17] [] ?_|refine rg 25 [4, 5, 15, 16, 17] [4, 5, 15, 16, 17] [] ?_);simp (maxSteps := 1000000) [hF, hpu, hm1, hm0, c1, c2, hw])
   refine nextK.of [4, 5, 15, 16, 17] [0, 1] (m - 1) (by omega) (by simp [hF]) ?_
   exact ⟨i + 1, _, _, by omega, hg', hf', hP', by simp [dBk]⟩
  by_cases h5 : d = 5
  ·subst h5
   have hc : doG g ⟨5, u, o, k, [k]⟩ = ((dropOf g u).1, (dropOf g u).2.1) := by simp [doG]
   rw [hc] at hg' hP' hf' hpu hm1
   dsimp only at hpu hm1
   repeat first|refine n1 ?_|refine n2 ?_|refine n3 ?_|((first|refine rg 7 [4, 5, 15, 16, 17] [4, 5, 7, 15, 16, 17] [] ?_|refine rg 8 [4, 5, 7, 15, 16, 17] [4, 5, 7, 8, 15, 16, 17] [] ?_|refine rg 9 [4, 5, 7, 8, 15, 16, 17] [4, 5, 7, 8, 15, 16, 17, 22] [] ?_|refine rg 10 [4, 5, 7, 8, 15, 16, 17, 22] [4, 5, 7, 8, 15, 16, 17, 22, 23] [] ?_|refine rg 14 [4, 5, 7, 8, 15, 16, 17, 22] [4, 5, 7, 8, 15, 16, 17, 22, 37] [] ?_|refine rg 16 [4, 5, 7, 8, 15, 16, 17, 22] [4, 5, 7, 8, 15, 16, 17, 22, 45] [] ?_|refine rg 18 [4, 5, 7, 8, 15, 16, 17, 22] [4, 5, 7, 8, 15, 16, 17, 22, 53] [] ?_|refine rg 20 [4, 5, 7, 8, 15, 16, 17, 22] [4, 5, 7, 8, 15, 16, 17, 22, 62] [] ?_|refine rg 22 [4, 5, 7, 8, 15, 16, 17, 22] [4, 5, 7, 8, 15, 16, 17, 71] [] ?_|refine rg 23 [4, 5, 7, 15, 16, 17] [4, 5, 8, 15, 16, 17] [] ?_|refine nc ?_);simp (maxSteps := 1000000) [hF, hn1, hlt'])
   refine (drop_c g b u).go [(0, [])] (by simp (maxSteps := 1000000) [hF, dBk]) ?_;rintro av X κ ⟨rfl, rfl, rfl⟩;simp (maxSteps := 1000000) [hF, dBk]
   repeat first|refine n4 ?_|refine n5 ?_
   repeat first|refine n4 ?_|refine n5 ?_|refine n6 ?_|((first|refine rg 24 [4, 5, 8, 15, 16, 17] [4, 5, 15, 16, 17] [] ?_|refine rg 25 [4, 5, 15, 16, 17] [4, 5, 15, 16, 17] [] ?_);simp (maxSteps := 1000000) [hF, hpu, hm1, hm0, c1, c2, hw])
   refine nextK.of [4, 5, 15, 16, 17] [0, 1] (m - 1) (by omega) (by simp [hF]) ?_
   exact ⟨i + 1, _, _, by omega, hg', hf', hP', by simp [dBk]⟩
  have hc : doG g ⟨d, u, o, k, [k]⟩ = (g, []) := by simp [doG, h0, h1, h2, h3, h4, h5]
  rw [hc] at hg' hP' hf' hpu hm1
  simp only [nats_nil, dNil_ints] at hpu
  repeat first|refine n1 ?_|refine n2 ?_|refine n3 ?_|refine n4 ?_|refine n5 ?_|((first|refine rg 7 [4, 5, 15, 16, 17] [4, 5, 7, 15, 16, 17] [] ?_|refine rg 8 [4, 5, 7, 15, 16, 17] [4, 5, 7, 8, 15, 16, 17] [] ?_|refine rg 9 [4, 5, 7, 8, 15, 16, 17] [4, 5, 7, 8, 15, 16, 17, 22] [] ?_|refine rg 10 [4, 5, 7, 8, 15, 16, 17, 22] [4, 5, 7, 8, 15, 16, 17, 22, 23] [] ?_|refine rg 14 [4, 5, 7, 8, 15, 16, 17, 22] [4, 5, 7, 8, 15, 16, 17, 22, 37] [] ?_|refine rg 16 [4, 5, 7, 8, 15, 16, 17, 22] [4, 5, 7, 8, 15, 16, 17, 22, 45] [] ?_|refine rg 18 [4, 5, 7, 8, 15, 16, 17, 22] [4, 5, 7, 8, 15, 16, 17, 22, 53] [] ?_|refine rg 20 [4, 5, 7, 8, 15, 16, 17, 22] [4, 5, 7, 8, 15, 16, 17, 22, 62] [] ?_|refine rg 22 [4, 5, 7, 8, 15, 16, 17, 22] [4, 5, 7, 8, 15, 16, 17, 71] [] ?_|refine nc ?_);simp (maxSteps := 1000000) [hF, hn1, hlt', h0, h1, h2, h3, h4, h5])
  refine VS.hold0 8 1 (by simp) ?_
  repeat first|refine n4 ?_|refine n5 ?_|refine n6 ?_|((first|refine rg 24 [4, 5, 8, 15, 16, 17] [4, 5, 15, 16, 17] [] ?_|refine rg 25 [4, 5, 15, 16, 17] [4, 5, 15, 16, 17] [] ?_);simp (maxSteps := 1000000) [hF, hpu, hm1, hm0, c1, c2, hw])
  refine nextK.of [4, 5, 15, 16, 17] [0, 1] (m - 1) (by omega) (by simp [hF]) ?_
  exact ⟨i + 1, _, _, by omega, hg', hf', hP', by simp [dBk]⟩
 ·have hil : i = L.length := by omega
  rw [hil, List.take_of_length_le (by simp)] at hP
  repeat first|refine n1 ?_|refine n7 ?_|(refine rg 26 [5] [2, 3] [] ?_;simp (maxSteps := 1000000) [hF])
  (try refine nr ?_);(repeat first|refine nb_ ?_|refine nl_ ?_);refine endK.o [2, 3] [1] [] ?_;simp [hF, retK, covers, mpre, hP, tellsG_len]
end Go.Proofs.Ytipokdbfdingmaa

/- Two deeds are asked to be the same. -/
namespace Go.Proofs.Ytipokdbfdingmaa
set_option linter.all false
open Go.Vc Go.Proofs
set_option maxHeartbeats 4000000
set_option maxRecDepth 100000
theorem eqDd {op : BinOp} {a b c : Int} {s : ByteArray} {K : AV → Prop} (h : eqVc op true K) :
    EqK Try.prog 52 op (.cons (.val (.int .i64 a)) (.cons (.val (.int .i64 b)) (.cons (.val (.int .i64 c)) (.cons (.val (.string s)) .nil)))) (.cons (.val (.int .i64 a)) (.cons (.val (.int .i64 b)) (.cons (.val (.int .i64 c)) (.cons (.val (.string s)) .nil)))) K := by
  refine ⟨_, ⟨Try.eqGuardType52, fun h I F xs ys w h1 h2 => ?_⟩, h⟩
  obtain ⟨_, _, rfl, ⟨rfl, _⟩, _, _, rfl, ⟨rfl, _⟩, _, _, rfl, ⟨rfl, _⟩, _, _, rfl, ⟨rfl, _⟩, rfl⟩ := h1
  obtain ⟨_, _, rfl, ⟨rfl, _⟩, _, _, rfl, ⟨rfl, _⟩, _, _, rfl, ⟨rfl, _⟩, _, _, rfl, ⟨rfl, _⟩, rfl⟩ := h2
  have key : ∀ n, (Op.equalIn (n + 2) 52 (.agg #[.int .i64 a, .int .i64 b, .int .i64 c, .string s]) (.agg #[.int .i64 a, .int .i64 b, .int .i64 c, .string s])).run Try.prog w = .ok true w := fun n => by
    simp [Op.equalIn, run_underlying Try.underlying52, run_underlying Try.underlying3, run_underlying Try.underlying9, part, isAgg]
    exact (Go.MapKept.bytes_beq s s).2 rfl
  exact key 9998
end Go.Proofs.Ytipokdbfdingmaa

/- GroundTells. -/
namespace Go.Proofs.Ytipokdbfdingmaa
set_option linter.all false
open Go.Vc Go.Proofs
set_option linter.unusedSimpArgs false
set_option linter.unusedVariables false
set_option maxRecDepth 100000
set_option maxHeartbeats 4000000
attribute [local irreducible] CallW EqK
theorem dPds_mid (L : List Pd) : (dPds L).mid 0 L.length = dPds L := sq_mid_all _ _ (by simp)
theorem dLL_same {P : List (List Nat)} {k : Nat} (h : k < P.length) : (dLL P).setN k (.sl true () 1 (dInts (nats P[k]))) = dLL P := by
 have e : (dLL P).setN k (.sl true () 1 (dInts (nats P[k]))) = dLL (P.set k P[k]) := by simp only [dLL, sq_setN, List.map_set]
 rw [e]
 exact congrArg _ (List.set_getElem_self h)
theorem tells_ok (L : List Pd) (ex : Bool) (c1 : L.length * 40 ≤ 140737488355328) : Meets Try.prog 4 [] (.cons (.imm 4 (dPds L) ex) .nil) fun av X κ => av = .val (.bool true) := by
 have c2 : L.length ≤ 9223372036854775807 := by omega
 have hm := dPds_mid L
 refine fb Try.func4 Try.ntmps4 [.tmp 2] fun w0 I0 F0 hF => ?_
 repeat first|refine n1 ?_|(refine rg 0 [0] [0] [] ?_;simp (maxSteps := 1000000) [hF])
 repeat first|refine n1 ?_|(refine rg 1 [0] [0, 3] [] ?_;simp (maxSteps := 1000000) [hF, c1, c2, hm])
 by_cases hL : 300 < L.length
 ·have hLi : (300 : Int) < L.length := by omega
  repeat first|(refine rg 2 [0, 3] [0, 3, 4, 5] [] ?_;simp (maxSteps := 1000000) [hF])
  refine (play_bad L ex hL).go [] (by simp (maxSteps := 1000000) [hF]) ?_;rintro av X κ ⟨rfl, rfl, rfl⟩;simp (maxSteps := 1000000) [hF]
  repeat first|refine n1 ?_|refine n3 ?_|(refine rg 3 [0, 3, 4, 5] [0, 3, 4, 5, 6] [] ?_;simp (maxSteps := 1000000) [hF])
  refine VS.rounds (fun m st => ∃ (i : Nat), i + m = L.length ∧ st = ⟨[(0, .imm 4 (dPds L) ex), (3, .sub 0 [] 0 L.length false), (4, .nils 1), (5, avInt 1), (6, avInt i)], [.sl true () 4 (dPds L)], [], []⟩) ⟨L.length, 0, by omega, by simp⟩ ?_
  rintro m st ⟨i, hi, rfl⟩
  have hw : IntKind.i64.wrap ((i : Int) + 1) = (i + 1 : Nat) := by rw [IntWalk.i64_in _ (by omega)]; rfl
  repeat first|refine n1 ?_|((first|refine rg 4 [0, 3, 4, 5, 6] [0, 3, 4, 5, 6, 20] [] ?_|refine nc ?_);simp (maxSteps := 1000000) [hF])
  refine ⟨fun hlt => ?_, fun hge => ?_⟩
  ·have hlt' : i < L.length := by omega
   have hn1 := dPds_nth hlt'
   repeat first|refine n1 ?_|refine n2 ?_|refine n3 ?_|((refine dr 6 0 [0, 3, 4, 5, 6] [0, 3, 4, 5, 6, 31] [] [⟨0, 8, 8388608, 5⟩, ⟨0, 64, 16777216, 5⟩, ⟨3, 25165824, 33554432, 5⟩, ⟨4, 33554432, 67108864, 6⟩, ⟨0, 1, 134217728, 5⟩, ⟨0, 64, 268435456, 5⟩, ⟨48, 402653184, 536870912, 5⟩, ⟨64, 536870912, 1073741824, 6⟩, ⟨136, 1140850688, 2147483648, 5⟩] (.take 0 (.take 1 (.take 2 (.take 3 (.take 4 (.take 5 (.take 6 (.take 7 (.take 8 (.done)))))))))) (.run [0, 1, 2, 3, 4, 5, 6, 7, 8] (.done)) ?_;simp only [drs]);simp (maxSteps := 1000000) [hF, hn1, hlt'])
   refine eqDd ?_
   simp (maxSteps := 1000000) [hF]
   repeat first|refine n2 ?_|refine n4 ?_|refine n5 ?_|refine n6 ?_|((first|refine rg 5 [0, 3, 4, 5, 6] [0, 3, 4, 5, 6] [] ?_|refine nc ?_);simp (maxSteps := 1000000) [hF, hw])
   refine nextK.of [0, 3, 4, 5, 6] [0] (m - 1) (by omega) (by simp [hF]) ?_
   exact ⟨i + 1, by omega, by simp⟩
  ·repeat first|refine n1 ?_|refine n7 ?_|((first|refine rg 8 [0, 4, 5] [0, 4, 5, 34] [] ?_|refine rg 9 [4, 5] [2] [(3, 38), (7, 42)] ?_|refine nc ?_);simp (maxSteps := 1000000) [hF, hL, hLi])
   refine (sane_ok).go [] (by simp (maxSteps := 1000000) [hF]) ?_;rintro av X κ ⟨rfl, rfl, rfl⟩;simp (maxSteps := 1000000) [hF]
   (try refine nr ?_);(repeat first|refine nb_ ?_|refine nl_ ?_);refine endK.o [2] [] [] ?_;simp [hF, retK, covers, mpre]
 ·have hLi : ¬ (300 : Int) < L.length := by omega
  have hL3 : L.length ≤ 300 := by omega
  repeat first|(refine rg 2 [0, 3] [0, 3, 4, 5] [] ?_;simp (maxSteps := 1000000) [hF])
  refine (play_ok L ex hL3).go [] (by simp (maxSteps := 1000000) [hF]) ?_;rintro av X κ ⟨rfl, rfl, rfl⟩;simp (maxSteps := 1000000) [hF]
  repeat first|refine n1 ?_|refine n3 ?_|(refine rg 3 [0, 3, 4, 5] [0, 3, 4, 5, 6] [] ?_;simp (maxSteps := 1000000) [hF])
  refine VS.rounds (fun m st => ∃ (i : Nat), i + m = L.length ∧ st = ⟨[(0, .imm 4 (dPds L) ex), (3, .sub 0 [] 0 L.length false), (4, .sub 1 [] 0 L.length false), (5, avInt 0), (6, avInt i)], [.sl true () 4 (dPds L), .sl true () 1 (dLL (tellsG bornB (L.map toP)))], [], []⟩) ⟨L.length, 0, by omega, by simp⟩ ?_
  rintro m st ⟨i, hi, rfl⟩
  have hw : IntKind.i64.wrap ((i : Int) + 1) = (i + 1 : Nat) := by rw [IntWalk.i64_in _ (by omega)]; rfl
  repeat first|refine n1 ?_|((first|refine rg 4 [0, 3, 4, 5, 6] [0, 3, 4, 5, 6, 20] [] ?_|refine nc ?_);simp (maxSteps := 1000000) [hF])
  refine ⟨fun hlt => ?_, fun hge => ?_⟩
  ·have hlt' : i < L.length := by omega
   have hn1 := dPds_nth hlt'
   repeat first|refine n1 ?_|refine n2 ?_|refine n3 ?_|((refine dr 6 0 [0, 3, 4, 5, 6] [0, 3, 4, 5, 6, 31] [] [⟨0, 8, 8388608, 5⟩, ⟨0, 64, 16777216, 5⟩, ⟨3, 25165824, 33554432, 5⟩, ⟨4, 33554432, 67108864, 6⟩, ⟨0, 1, 134217728, 5⟩, ⟨0, 64, 268435456, 5⟩, ⟨48, 402653184, 536870912, 5⟩, ⟨64, 536870912, 1073741824, 6⟩, ⟨136, 1140850688, 2147483648, 5⟩] (.take 0 (.take 1 (.take 2 (.take 3 (.take 4 (.take 5 (.take 6 (.take 7 (.take 8 (.done)))))))))) (.run [0, 1, 2, 3, 4, 5, 6, 7, 8] (.done)) ?_;simp only [drs]);simp (maxSteps := 1000000) [hF, hn1, hlt'])
   refine eqDd ?_
   simp (maxSteps := 1000000) [hF]
   repeat first|refine n2 ?_|refine n4 ?_|refine n5 ?_|refine n6 ?_|((first|refine rg 5 [0, 3, 4, 5, 6] [0, 3, 4, 5, 6] [] ?_|refine nc ?_);simp (maxSteps := 1000000) [hF, hw])
   refine nextK.of [0, 3, 4, 5, 6] [0, 1] (m - 1) (by omega) (by simp [hF]) ?_
   exact ⟨i + 1, by omega, by simp⟩
  ·repeat first|refine n1 ?_|refine n2 ?_|refine n7 ?_|((first|refine rg 8 [0, 4, 5] [0, 4, 5, 34] [] ?_|refine rg 10 [0, 4, 5] [0, 4, 53] [(2, 47)] ?_|refine rg 12 [0, 4] [0, 4, 7] [] ?_|refine nc ?_);simp (maxSteps := 1000000) [hF, hL, hLi])
   refine (enew_ok).go [] (by simp (maxSteps := 1000000) [hF]) ?_;rintro av X κ ⟨rfl, rfl, rfl⟩;simp (maxSteps := 1000000) [hF]
   repeat first|refine n1 ?_|refine n3 ?_|(refine rg 13 [0, 4, 7] [0, 4, 7, 8] [] ?_;simp (maxSteps := 1000000) [hF])
   refine VS.pick [0, 4, 7, 8] [1, 2] (by simp [hF]) ?_;simp [hF]
   refine VS.rounds (fun m2 st => ∃ (k : Nat) (g : Gb), k + m2 = L.length ∧ g = bookG bornB ((L.map toP).take k) ∧ Fb k g ∧ st = ⟨[(0, .imm 4 (dPds L) ex), (4, .sub 0 [] 0 L.length false), (7, .ptr 1 [.d]), (8, avInt k)], [.sl true () 1 (dLL (tellsG bornB (L.map toP))), eBk g], [], []⟩)
    ⟨L.length, 0, bornB, by omega, by simp [bookG], fb_born, by simp [eBk]⟩ ?_
   rintro m2 st ⟨k, g, hk, hg, hf, rfl⟩
   have hwk : IntKind.i64.wrap ((k : Int) + 1) = (k + 1 : Nat) := by rw [IntWalk.i64_in _ (by omega)]; rfl
   repeat first|refine n1 ?_|((first|refine rg 14 [0, 4, 7, 8] [0, 4, 7, 8, 58] [] ?_|refine nc ?_);simp (maxSteps := 1000000) [hF])
   refine ⟨fun hlt2 => ?_, fun hge2 => ?_⟩
   ·have hkl : k < L.length := by omega
    have hn1 := dPds_nth hkl
    have hltm : k < (L.map toP).length := by simpa using hkl
    have htk := take_snoc hltm
    have hg' : (doG g (toP L[k])).1 = bookG bornB ((L.map toP).take (k + 1)) := by rw [htk, bookG_snoc, ← hg]; simp
    have hf' : Fb (k + 1) (doG g (toP L[k])).1 := fb_do hf _
    have hxl : k < (tellsG bornB (L.map toP)).length := by rw [tellsG_len]; exact hltm
    have hnx := dLL_nth hxl
    rw [tellsG_at hltm, ← hg] at hnx
    simp only [List.getElem_map] at hnx
    have hdl := doG_len hf.bk (toP L[k])
    have hdd : toP L[k] = ⟨L[k].d, L[k].u, L[k].o, L[k].k, [L[k].k]⟩ := rfl
    have hed := edoes_ok g hf (by omega) L[k].d L[k].u L[k].o L[k].k
    rw [← hdd] at hed
    have hsm := dLL_same (P := tellsG bornB (L.map toP)) hxl
    rw [tellsG_at hltm, ← hg] at hsm
    simp only [List.getElem_map] at hsm
    repeat first|refine n1 ?_|refine n2 ?_|refine n3 ?_|((refine dr 16 0 [0, 4, 7, 8] [0, 4, 7, 8, 89] [] [⟨0, 16, 2305843009213693952, 5⟩, ⟨0, 256, 4611686018427387904, 5⟩, ⟨3, 6917529027641081856, 9223372036854775808, 5⟩, ⟨4, 9223372036854775808, 18446744073709551616, 6⟩, ⟨0, 128, 36893488147419103232, 5⟩, ⟨0, 1, 73786976294838206464, 5⟩, ⟨0, 256, 147573952589676412928, 5⟩, ⟨96, 221360928884514619392, 295147905179352825856, 5⟩, ⟨128, 295147905179352825856, 590295810358705651712, 5⟩, ⟨256, 590295810358705651712, 1180591620717411303424, 6⟩, ⟨0, 1, 2361183241434822606848, 5⟩, ⟨0, 256, 4722366482869645213696, 5⟩, ⟨3072, 7083549724304467820544, 9444732965739290427392, 5⟩, ⟨4096, 9444732965739290427392, 18889465931478580854784, 5⟩, ⟨8192, 18889465931478580854784, 37778931862957161709568, 6⟩, ⟨0, 1, 75557863725914323419136, 5⟩, ⟨0, 256, 151115727451828646838272, 5⟩, ⟨98304, 226673591177742970257408, 302231454903657293676544, 5⟩, ⟨131072, 302231454903657293676544, 604462909807314587353088, 5⟩, ⟨262144, 604462909807314587353088, 1208925819614629174706176, 6⟩, ⟨0, 1, 2417851639229258349412352, 5⟩, ⟨0, 256, 4835703278458516698824704, 5⟩, ⟨3145728, 7253554917687775048237056, 9671406556917033397649408, 5⟩, ⟨4194304, 9671406556917033397649408, 19342813113834066795298816, 5⟩, ⟨8388608, 19342813113834066795298816, 38685626227668133590597632, 6⟩, ⟨17318400, 39933511570766437338316800, 77371252455336267181195264, 5⟩, ⟨33554448, 77371289348824414600298496, 154742504910672534362390528, 0⟩, ⟨67108872, 154742523357416608071942144, 309485009821345068724781056, 0⟩, ⟨134217728, 309485009821345068724781056, 618970019642690137449562112, 5⟩] (.take 0 (.take 1 (.take 2 (.take 4 (.take 5 (.take 6 (.take 7 (.take 8 (.take 9 (.take 10 (.take 11 (.take 12 (.take 13 (.take 14 (.take 15 (.take 16 (.take 17 (.take 18 (.take 19 (.take 20 (.take 21 (.take 22 (.take 23 (.take 24 (.take 25 (.fork (.alt 3 (.fork (.alt 26 (.fork (.alt 27 (.take 28 (.done)) (.nil))) (.nil))) (.alt 26 (.take 3 (.fork (.alt 27 (.take 28 (.done)) (.nil)))) (.nil))))))))))))))))))))))))))))) (.run [0, 1, 2, 4, 5, 6, 7, 8, 9, 10, 11, 12, 13, 14, 15, 16, 17, 18, 19, 20, 21, 22, 23, 24, 25] (.both (.run [3, 26, 27, 28] (.done)) (.run [26, 3, 27, 28] (.done)))) ?_;simp only [drs]);simp (maxSteps := 1000000) [hF, hn1, hkl, hnx, hxl])
    (repeat' with_reducible refine And.intro ?_ ?_)
    all_goals (refine (hed).go [(1, [])] (by simp (maxSteps := 1000000) [hF, eBk, hnx, hxl, hkl]) ?_;rintro av X κ ⟨e, rfl, rfl, rfl⟩;simp (maxSteps := 1000000) [hF, eBk, hnx, hxl, hkl])
    (repeat' with_reducible refine And.intro ?_ ?_)
    all_goals (refine (ints_n (doG g (toP L[k])).2 false e (by omega)).go [(0, [.i k]), (2, [])] (by simp (maxSteps := 1000000) [hF, hnx, hxl, hkl, hsm]) ?_;rintro av X κ ⟨rfl, rfl, rfl⟩;simp (maxSteps := 1000000) [hF, hnx, hxl, hkl, hsm])
    all_goals (repeat first|refine n2 ?_|refine n4 ?_|refine n5 ?_|refine n6 ?_|((first|refine rg 15 [0, 4, 7, 8] [0, 4, 7, 8] [] ?_|refine nc ?_);simp (maxSteps := 1000000) [hF, hwk]))
    all_goals (refine nextK.of [0, 4, 7, 8] [0, 1] (m2 - 1) (by omega) (by simp [hF]) ?_)
    all_goals exact ⟨k + 1, _, by omega, hg', hf', by simp [eBk, hsm]⟩
   ·repeat first|refine n1 ?_|refine n7 ?_|(refine rg 18 [] [2] [] ?_;simp (maxSteps := 1000000) [hF])
    refine (sane_ok).go [] (by simp (maxSteps := 1000000) [hF]) ?_;rintro av X κ ⟨rfl, rfl, rfl⟩;simp (maxSteps := 1000000) [hF]
    (try refine nr ?_);(repeat first|refine nb_ ?_|refine nl_ ?_);refine endK.o [2] [] [] ?_;simp [hF, retK, covers, mpre]
end Go.Proofs.Ytipokdbfdingmaa

/- From a row's list to a list that cannot change, its length kept in sight. -/
namespace Go.Vc
set_option linter.all false
open T (hdr blk)
theorem mapM_len {α β : Type} {f : α → Option β} : ∀ {l : List α} {r : List β}, l.mapM f = some r → r.length = l.length := by
  intro l
  induction l with
  | nil => intro r h; simp at h; subst h; rfl
  | cons x xs ih =>
    intro r h
    rw [List.mapM_cons] at h
    cases hx : f x with
    | none => simp [hx] at h
    | some y =>
      cases hxs : xs.mapM f with
      | none => simp [hx, hxs] at h
      | some ys =>
        simp [hx, hxs] at h
        subst h
        simp [ih hxs]
theorem imm_of_trod_len {P : Program} {t e : TypeId} {z : Nat} {good : D → Prop} (ht : P.underlying t = some (.slice e)) (he : Reads P e z good) (hc : P.cellsOf e = z) (hz : 0 < z) {H : Type} {enc : TypeId × Value → H} {w : World}
    {r : Reach} {b0 : Nat} {v : Value} {d : DataW H} {ps : List MemPlace} (hv : Value.okWide P w r b0 t v) (h : DataW.Trod enc P w 0 (fun _ => true) true t v d ps) :
    ∃ l : List D, (∀ d ∈ l, good d) ∧ l.length ≤ 2 ^ 63 - 1 ∧ Rl w.heap (allB w) [] (.imm z (sq l) false) true [v] ∧ (l = [] ∨ ∃ elems spare, d = .slice elems spare ∧ elems.length = l.length) := by
  have hh := h
  obtain ⟨l, h1, h2, h3⟩ := imm_of_trod ht he hc hz hv h
  refine ⟨l, h1, h2, h3, ?_⟩
  obtain ⟨v', hv', s, hs, hH, _⟩ := h3
  simp only [List.cons.injEq, and_true] at hv'
  subst hv'
  have hlen : s.len = l.length := by
    have := congrArg T.len hs
    rw [T.erase_len, sq_len] at this
    exact this
  obtain ⟨_, _, _, h4⟩ := hH
  obtain ⟨fuel, h⟩ := hh
  split at h4
  · exact .inl (List.length_eq_zero_iff.1 (by omega))
  · exact .inl (List.length_eq_zero_iff.1 (by omega))
  · rename_i x n c
    obtain ⟨_, g2, _⟩ := h4
    cases fuel with
    | zero => simp [DataW.trod] at h
    | succ fuel =>
      rw [DataW.trod_step] at h
      unfold DataW.trodStep at h
      simp only [ht, Value.cells] at h
      split at h
      · rw [Option.bind_eq_some_iff] at h
        obtain ⟨elems, e1, e2⟩ := h
        rw [Option.map_eq_some_iff] at e2
        obtain ⟨rest, e3, e4⟩ := e2
        simp only [Prod.mk.injEq] at e4
        have := mapM_len e1
        refine .inr ⟨_, _, e4.1.symm, ?_⟩
        rw [List.length_map, this, List.length_range]
        omega
      · cases h
  · exact h4.elim
end Go.Vc

/- The arguments of the laws: deeds of Play. -/
namespace Go.Proofs.Ytipokdbfdingmaa
set_option linter.all false
open Go.Vc Go.Proofs Go
set_option maxRecDepth 100000
theorem reads_pd : Reads Try.prog 52 4 fun d => ∃ x, d = dPd x := by
  have h := reads_struct (gs := [(1, fun d => ∃ n, d = .val (.int .i64 n)), (1, fun d => ∃ n, d = .val (.int .i64 n)), (1, fun d => ∃ n, d = .val (.int .i64 n)), (1, fun d => ∃ n, d = .val (.string n))]) Try.underlying52
    ⟨reads_int Try.underlying3, by kernel_rfl, rfl, reads_int Try.underlying3, by kernel_rfl, rfl, reads_int Try.underlying3, by kernel_rfl, rfl, reads_str Try.underlying9, by kernel_rfl, rfl, trivial⟩ (by kernel_rfl)
  refine fun H enc w fuel cs x hx => ?_
  obtain ⟨g, h1, h2, h3, h4, s, h5, a1, t1, rfl, ⟨n1, rfl⟩, a2, t2, rfl, ⟨n2, rfl⟩, a3, t3, rfl, ⟨n3, rfl⟩, a4, t4, rfl, ⟨n4, rfl⟩, rfl⟩ := h H enc w fuel cs x hx
  exact ⟨g, h1, h2, h3, h4, ⟨n1, n2, n3, n4⟩, h5⟩
section
variable {H : Type} {enc : TypeId × Value → H} {w : World} {r : Go.Reach} {b0 : Nat} {v : Value} {d : DataW H} {ps : List MemPlace}
theorem pdeeds_of (hv : Value.okWide Try.prog w r b0 47 v) (h : DataW.Trod enc Try.prog w 0 (fun _ => true) true 47 v d ps) :
    ∃ l : List Pd, (l = [] ∨ ∃ elems spare, d = .slice elems spare ∧ elems.length = l.length) ∧ Rl w.heap (allB w) [] (.imm 4 (dPds l) false) true [v] := by
  obtain ⟨l, h1, h2, h3, h4⟩ := imm_of_trod_len (z := 4) Try.underlying47 reads_pd (by kernel_rfl) (by omega) hv h
  obtain ⟨ys, rfl⟩ := map_of h1
  refine ⟨ys, ?_, h3⟩
  rcases h4 with h4 | ⟨e, s, h4, h5⟩
  · exact .inl (by simpa using h4)
  · exact .inr ⟨e, s, h4, by simpa using h5⟩
end
end Go.Proofs.Ytipokdbfdingmaa

/- Proved: GroundTells returns true for every input, and its arguments read behind the call as before. No condition. -/
namespace Go.Proofs.Ytipokdbfdingmaa.groundTells
set_option linter.all false
open Go.Vc Go.ChangeShapes Go.WideShapes Go.ChangeAt Go.RowKit
set_option linter.unusedVariables false
theorem own : ownKnob Try.prog.godebug = none := by kernel_rfl
theorem laid : laidOutB Try.prog = true := by kernel_rfl
set_option maxRecDepth 100000 in
theorem lifted (os : Os) (started : os.Started) (H : Type) (enc : TypeId × Value → H) :
    ReturnsInHanded {} Try.checked os 4 .any (Rows.groundTellsSpec.pre6 enc Try.prog Try.f4 Rows.groundTellsRow.domain false) (Rows.groundTellsSpec.post enc Try.prog Try.f4 false true false false) := by
  refine returnsInHanded_of_change_sized (C := Try.checked) own started (by kernel_rfl) Try.func4
    (ChangeSpec.witness6 (enc := enc) (C := Try.checked) false ⟨#[], #[.slice none 0 0], []⟩ 8 (by kernel_rfl) (by kernel_rfl) (by kernel_rfl) (by kernel_rfl)) ?_
  intro W base args ds gs before hval0 hW hcnd hsz _
  have hval : ∀ (j : Nat) t v, Try.f4.params[j]? = some t → args[j]? = some v → Value.okWide Try.prog W .any base t v := hval0
  have hW' := hW
  obtain ⟨p, q, hA0, hV, rfl, hfz, hnd⟩ := hW
  have hA : DataW.TrodAll enc Try.prog W 0 (fun _ => true) true Try.f4.params.toList args.toList ds p := hA0
  rw [Try.params4] at hA hval
  obtain ⟨v0, vs0, d0, ds0, p0, q0, hargs0, rfl, rfl, h0, r0⟩ := trodAll_cons hA
  obtain ⟨rfl, rfl, rfl⟩ := trodAll_nil r0
  obtain rfl : args = #[v0] := by cases args; simp_all
  obtain ⟨rfl, rfl⟩ := trodVars_none hV
  obtain ⟨a0, hl0, hr0⟩ := pdeeds_of (hval 0 47 v0 rfl rfl) h0
  have hb0 : a0.length * 40 ≤ 140737488355328 := by
    rcases hl0 with rfl | ⟨elems, spare, rfl, hel⟩
    · simp
    · have h9 := sized_slice (P := Try.prog) (j := 0) hsz (t := 47) (e := 52) rfl rfl Try.underlying47
      have hbo : Try.prog.bytesOf 52 = 40 := by kernel_rfl
      rw [hbo, hel] at h9
      have := reachBytes_lt
      omega
  clear hA0 hval0
  have hwalk : Calls Try.prog 4 #[v0] W fun e w' => e = .returned (.bool true) ∧ Below W.heap.size W w' :=
    Meets.law (tells_ok a0 false hb0) (vs := [v0]) (I := allB W) (fun _ h => h) ⟨v0, _, rfl, hr0, rfl⟩
  refine hwalk.mono fun e W' ⟨he, bel⟩ => ?_
  subst he
  exact ⟨_, rfl, _, _, _, [], _, [], hW', trodAll_mk1 (shut_bool Try.underlying4 _), (trodAll_cons_mk (Below.trod laid (by kernel_rfl) (of_decide_eq_true (by kernel_rfl)) h0 bel fun x hx => hW'.lt x (by simp [hx])) trodAll_mk0), rfl, bel.frame _, fun h => by cases h⟩
theorem over : Rows.groundTellsRow.holds Try.pinned (OpenSpec.ofChange Rows.groundTellsSpec) :=
  OpenClaim.holds_of_wide 4 Try.f4 rfl rfl rfl rfl rfl rfl rfl ⟨rfl, rfl, rfl, rfl, rfl⟩ rfl rfl rfl rfl rfl (by kernel_rfl) Try.func4 (by kernel_rfl)
    (of_decide_eq_true (by kernel_rfl)) (by unfold Func.isWrapper; first | (rw [if_pos (by decide +kernel)]; kernel_rfl) | (rw [if_neg (by decide +kernel)]; exact ⟨rfl, rfl⟩))
    (fun os started H enc _ => lifted os started H enc)
theorem proved : Rows.GroundTellsSaid :=
  over
end Go.Proofs.Ytipokdbfdingmaa.groundTells
