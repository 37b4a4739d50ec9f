/- HeapKeeps. -/
import Derived.Test.YtfdcfjjobdnofaaK8
import Derived.Test.YtfdcfjjobdnofaaRows
import Derived.WalkKit
import Derived.ProofKit
import Derived.OpenShut
import Derived.ShutString
import Derived.ChangeOld
import Derived.Carry
namespace Go.Proofs.Ytfdcfjjobdnofaa
set_option linter.all false
open Go.Vc Go.Proofs
set_option linter.unusedSimpArgs false
set_option linter.unusedVariables false
set_option maxRecDepth 100000
set_option maxHeartbeats 4000000
attribute [local irreducible] CallW EqK

theorem elive_c (h : Hp) (k : Ok h) : Meets Try.prog 22 [eHp h] (.cons (.ptr 0 [.d]) .nil) fun av X κ => av = .sub 1 [] 0 (liveOf h).length false ∧ X = [eHp h, .sl true () 1 (dInts (liveOf h))] ∧ κ = [] :=
 warmE (elive_ok h k) rfl rfl (by simp [T.allOwn]) rfl
/-- Lists of numbers. -/
def dLL (l : List (List Int)) : D := sq (l.map fun s => .sl true () 1 (dInts s))
@[simp] theorem dLL_len (l : List (List Int)) : (dLL l).len = l.length := by simp [dLL]
theorem dLL_nth {l : List (List Int)} {i : Nat} (h : i < l.length) : (dLL l).nth i = .sl true () 1 (dInts l[i]) := by
 rw [dLL, sq_nth_lt (by simpa using h)]; simp
theorem dLL_push (l : List (List Int)) (s : List Int) : (dLL l).app (.cons (.sl true () 1 (dInts s)) .nil) = dLL (l ++ [s]) := by
 simp only [dLL, List.map_append, ← sq_app]; rfl
theorem dLL_mid1 (l : List (List Int)) (s : List Int) : (dLL (l ++ [s])).mid 0 (l.length + 1) = dLL (l ++ [s]) := sq_mid_all _ _ (by simp)
@[simp] theorem dLL_mid_all (l : List (List Int)) : (dLL l).mid 0 l.length = dLL l := sq_mid_all _ _ (by simp)
@[simp] theorem dNil_ll : dLL [] = .nil := rfl

/- cabochon/cabochonlaw27.HeapKeeps -/
theorem hkeeps_ok (nn : Int) (L : List Hd) (M : List Int) (ex ex2 : Bool) : Meets Try.prog 5 [] (.cons (avInt nn) (.cons (.imm 5 (dLds L) ex) (.cons (.imm 1 (dInts M) ex2) .nil))) fun av X κ => av = .val (.bool true) := by
 have f0 := fit_played nn L
 obtain ⟨h, hP⟩ : ∃ h, h = playedOf nn L := ⟨_, rfl⟩
 rw [← hP] at f0
 have k := f0.fine.ok
 have ll := live_len k
 obtain ⟨V, hV⟩ : ∃ V, V = liveOf h := ⟨_, rfl⟩
 have hVl : V.length ≤ 2000 := by rw [hV]; exact ll
 have hth : ∀ x ∈ V, there h x = true := fun x hx => (liveOf_in k (hV ▸ hx)).there
 refine fb Try.func5 Try.ntmps5 [.tmp 6] fun w0 I0 F0 hF => ?_
 repeat first|refine n1 ?_|((first|refine rg 0 [0, 1, 2] [0, 1, 2] [] ?_|refine rg 1 [0, 1, 2] [2, 7, 8, 9] [] ?_);simp (maxSteps := 1000000) [hF])
 refine (played_ok nn L ex).go [] (by simp (maxSteps := 1000000) [hF, ← hP]) ?_;rintro av X κ ⟨rfl, rfl, rfl⟩;simp (maxSteps := 1000000) [hF, ← hP]
 repeat first|refine n1 ?_|refine n2 ?_|((first|refine rg 2 [2, 7, 8, 9] [2, 7, 8, 30] [] ?_|refine rg 4 [2, 7, 8] [2, 7, 10] [] ?_|refine nc ?_);simp (maxSteps := 1000000) [hF])
 refine (elive_c h k).go [(1, [])] (by simp (maxSteps := 1000000) [hF, eHp, ← hV]) ?_;rintro av X κ ⟨rfl, rfl, rfl⟩;simp (maxSteps := 1000000) [hF, eHp, ← hV]
 repeat first|refine n1 ?_|(refine rg 5 [2, 7, 10] [2, 7, 10, 11] [] ?_;simp (maxSteps := 1000000) [hF])
 refine VS.hold0 11 1 (by simp) ?_
 repeat first|refine n3 ?_|(refine rg 6 [2, 7, 10, 11] [2, 7, 10, 11, 12] [] ?_;simp (maxSteps := 1000000) [hF])
 refine VS.pick [2, 7, 10, 11, 12] [0, 2, 3] (by simp [hF]) ?_;simp [hF]
 refine VS.rounds (fun m st => ∃ (i : Nat) (S : List (List Int)), i + m = V.length ∧ S = (V.map (slotsOf h)).take i ∧ st = ⟨[(2, .imm 1 (dInts M) ex2), (7, .ptr 0 [.d]), (10, .sub 1 [] 0 V.length false), (11, .sub 2 [] 0 S.length false), (12, avInt i)], [dHp h, .sl true () 1 (dInts V), .sl true () 1 (dLL S)], [], []⟩) ⟨V.length, 0, [], by omega, by simp, by simp [dHp]⟩ ?_
 rintro m st ⟨i, S, hi, hS, rfl⟩
 have hSl : S.length = i := by rw [hS, List.length_take, List.length_map]; omega
 have hw : IntKind.i64.wrap ((i : Int) + 1) = (i + 1 : Nat) := by rw [IntWalk.i64_in _ (by omega)]; rfl
 repeat first|refine n1 ?_|((first|refine rg 7 [2, 7, 10, 11, 12] [2, 7, 10, 11, 12, 36] [] ?_|refine nc ?_);simp (maxSteps := 1000000) [hF])
 refine ⟨fun hlt => ?_, fun hge => ?_⟩
 ·have hlt' : i < V.length := by omega
  have hn1 := dInts_nth hlt'
  have ht := hth V[i] (List.getElem_mem hlt')
  have hs8 := slots8 k V[i]
  have hS1 : S ++ [slotsOf h V[i]] = (V.map (slotsOf h)).take (i + 1) := by rw [hS, List.take_add_one, List.getElem?_eq_getElem (by simpa using hlt')]; simp
  generalize V[i] = x at *
  repeat first|refine n1 ?_|refine n2 ?_|refine n3 ?_|(refine rg 9 [2, 7, 10, 11, 12] [2, 7, 10, 11, 12, 13] [] ?_;simp (maxSteps := 1000000) [hF])
  refine VS.hold0 13 1 (by simp) ?_
  repeat first|refine n3 ?_|(refine rg 10 [2, 7, 10, 11, 12, 13] [2, 7, 10, 11, 12, 13, 14] [] ?_;simp (maxSteps := 1000000) [hF])
  refine VS.rounds (fun m2 st => ∃ (j : Nat) (Q : List Int), j + m2 = 8 ∧ Q = (slotsOf h x).take j ∧ st = ⟨[(2, .imm 1 (dInts M) ex2), (7, .ptr 0 [.d]), (10, .sub 1 [] 0 V.length false), (11, .sub 2 [] 0 S.length false), (12, avInt i), (13, .sub 3 [] 0 Q.length false), (14, avInt j)], [dHp h, .sl true () 1 (dInts V), .sl true () 1 (dLL S), .sl true () 1 (dInts Q)], [], []⟩) ⟨8, 0, [], by omega, by simp, by simp [dHp]⟩ ?_
  rintro m2 st ⟨j, Q, hj, hQ, rfl⟩
  have hQl : Q.length ≤ 8 := by rw [hQ, List.length_take]; omega
  have hwj : IntKind.i64.wrap ((j : Int) + 1) = (j + 1 : Nat) := by rw [IntWalk.i64_in _ (by omega)]; rfl
  repeat first|refine n1 ?_|((first|refine rg 11 [2, 7, 10, 11, 12, 13, 14] [2, 7, 10, 11, 12, 13, 14, 40] [] ?_|refine nc ?_);simp (maxSteps := 1000000) [hF])
  refine ⟨fun hlt2 => ?_, fun hge2 => ?_⟩
  ·have hg1 := get_there k ht (s := j) (by omega)
   by_cases hjl : j < (slotsOf h x).length
   ·rw [if_pos hjl] at hg1
    have hQ1 : Q ++ [(slotsOf h x).getD j 0] = (slotsOf h x).take (j + 1) := by rw [hQ, List.take_add_one, List.getElem?_eq_getElem hjl, List.getD_eq_getElem?_getD, List.getElem?_eq_getElem hjl]; rfl
    generalize (slotsOf h x).getD j 0 = y at *
    have hp := dInts_app1 Q y
    have hm1 : (dInts (Q ++ [y])).mid 0 (Q.length + 1) = dInts (Q ++ [y]) := sq_mid_all _ _ (by simp)
    have c1 : (Q.length + 1) * 8 ≤ 140737488355328 := by omega
    have c2 : Q.length ≤ 9223372036854775806 := by omega
    repeat first|refine n1 ?_|refine n2 ?_|refine n3 ?_|(refine rg 13 [2, 7, 10, 11, 12, 13, 14] [2, 7, 10, 11, 12, 13, 14, 15, 16] [] ?_;simp (maxSteps := 1000000) [hF, hn1, hlt'])
    refine (get_ok h k x j).go [(0, [])] (by simp (maxSteps := 1000000) [hF, dHp, hg1]) ?_;rintro av X κ ⟨rfl, rfl, rfl⟩;simp (maxSteps := 1000000) [hF, dHp, hg1]
    repeat first|refine n1 ?_|refine n4 ?_|refine n5 ?_|refine n6 ?_|((first|refine rg 12 [2, 7, 10, 11, 12, 13, 14] [2, 7, 10, 11, 12, 13, 14] [] ?_|refine rg 14 [2, 7, 10, 11, 12, 13, 14, 15, 16] [2, 7, 10, 11, 12, 13, 14, 15, 54] [] ?_|refine rg 15 [2, 7, 10, 11, 12, 13, 14, 15] [2, 7, 10, 11, 12, 13, 14] [] ?_|refine nc ?_);simp (maxSteps := 1000000) [hF, hp, hm1, c1, c2, hwj])
    refine nextK.of [2, 7, 10, 11, 12, 13, 14] [0, 1, 2, 3] (m2 - 1) (by omega) (by simp [hF]) ?_
    exact ⟨j + 1, Q ++ [y], by omega, hQ1, by simp [dHp]⟩
   ·rw [if_neg hjl] at hg1
    repeat first|refine n1 ?_|refine n2 ?_|refine n3 ?_|(refine rg 13 [2, 7, 10, 11, 12, 13, 14] [2, 7, 10, 11, 12, 13, 14, 15, 16] [] ?_;simp (maxSteps := 1000000) [hF, hn1, hlt'])
    refine (get_ok h k x j).go [(0, [])] (by simp (maxSteps := 1000000) [hF, dHp, hg1]) ?_;rintro av X κ ⟨rfl, rfl, rfl⟩;simp (maxSteps := 1000000) [hF, dHp, hg1]
    repeat first|refine n1 ?_|refine n2 ?_|refine n4 ?_|refine n5 ?_|refine n6 ?_|((first|refine rg 12 [2, 7, 10, 11, 12, 13, 14] [2, 7, 10, 11, 12, 13, 14] [] ?_|refine rg 14 [2, 7, 10, 11, 12, 13, 14, 15, 16] [2, 7, 10, 11, 12, 13, 14, 15, 54] [] ?_|refine nc ?_);simp (maxSteps := 1000000) [hF, hwj])
    refine nextK.of [2, 7, 10, 11, 12, 13, 14] [0, 1, 2, 3] (m2 - 1) (by omega) (by simp [hF]) ?_
    exact ⟨j + 1, Q, by omega, by rw [hQ, List.take_of_length_le (by omega), List.take_of_length_le (by omega)], by simp [dHp]⟩
  ·have hQe : Q = slotsOf h x := by rw [hQ, List.take_of_length_le (by omega)]
   rw [← hQe] at hS1
   have hp := dLL_push S Q
   have hm := dLL_mid1 S Q
   have c1 : (S.length + 1) * 24 ≤ 140737488355328 := by omega
   have c2 : S.length ≤ 9223372036854775806 := by omega
   have hm0 : (dInts Q).mid 0 Q.length = dInts Q := by simp
   repeat first|refine n4 ?_|refine n5 ?_|refine n6 ?_|refine n7 ?_|refine n8 ?_|refine n0 ?_|((first|refine rg 8 [2, 7, 10, 11, 12] [2, 7, 10, 11, 12] [] ?_|refine rg 16 [2, 7, 10, 11, 12, 13] [2, 7, 10, 11, 12] [] ?_);simp (maxSteps := 1000000) [hF, hp, hm, c1, c2, hw, hm0])
   refine nextK.of [2, 7, 10, 11, 12] [0, 1, 2] (m - 1) (by omega) (by simp [hF]) ?_
   exact ⟨i + 1, S ++ [Q], by omega, hS1, by simp [dHp]⟩
 ·have hSe : S = V.map (slotsOf h) := by rw [hS, List.take_of_length_le (by simp; omega)]
  have hSl2 : S.length = V.length := by rw [hSe, List.length_map]
  clear hS hSl
  repeat first|refine n1 ?_|refine n3 ?_|refine n7 ?_|(refine rg 17 [2, 7, 10, 11] [2, 7, 10, 11, 17] [] ?_;simp (maxSteps := 1000000) [hF])
  refine VS.rounds (fun m st => ∃ (i : Nat) (g : Hp), i + m = M.length ∧ i ≤ 12 ∧ Fit (100 + i) g ∧ Kept h g ∧ st = ⟨[(2, .imm 1 (dInts M) ex2), (7, .ptr 0 [.d]), (10, .sub 1 [] 0 V.length false), (11, .sub 2 [] 0 S.length false), (17, avInt i)], [dHp g, .sl true () 1 (dInts V), .sl true () 1 (dLL S)], [], []⟩) ⟨M.length, 0, h, by omega, by omega, f0, Kept.refl k, by simp [dHp]⟩ ?_
  rintro m st ⟨i, g, hi, hi12, f, hk, rfl⟩
  have kg := f.fine.ok
  have hwl := f.wl (by omega)
  have hfl := f.fl (by omega)
  have hql := f.ql (by omega)
  have hag := f.ag (by omega)
  have hw : IntKind.i64.wrap ((i : Int) + 1) = (i + 1 : Nat) := by rw [IntWalk.i64_in _ (by omega)]; rfl
  repeat first|refine n1 ?_|(refine rg 18 [2, 7, 10, 11, 17] [2, 7, 10, 11, 17, 70] [(4, 67)] ?_;simp (maxSteps := 1000000) [hF])
  refine ⟨fun hlt => ?_, fun hge => ?_⟩
  ·repeat first|(refine nc ?_;simp (maxSteps := 1000000) [hF])
   refine ⟨fun h8 => ?_, fun h8 => ?_⟩
   ·have hlt' : i < M.length := by omega
    have hn1 := dInts_nth hlt'
    generalize M[i] = v at hn1
    repeat first|refine n1 ?_|refine n2 ?_|refine n3 ?_|((first|refine rg 20 [2, 7, 10, 11, 17] [2, 7, 10, 11, 17, 78] [] ?_|refine nc ?_);simp (maxSteps := 1000000) [hF, hn1, hlt'])
    refine ⟨fun hz => ?_, fun hz => ?_⟩
    ·repeat first|(refine rg 21 [2, 7, 10, 11, 17] [2, 7, 10, 11, 17] [] ?_;simp (maxSteps := 1000000) [hF])
     refine (minor_ok g kg hwl hfl hql hag).go [(0, [])] (by simp (maxSteps := 1000000) [hF, dHp]) ?_;rintro av X κ ⟨rfl, rfl, rfl⟩;simp (maxSteps := 1000000) [hF, dHp]
     repeat first|refine n4 ?_|refine n5 ?_|refine n6 ?_|(refine rg 19 [2, 7, 10, 11, 17] [2, 7, 10, 11, 17] [] ?_;simp (maxSteps := 1000000) [hF, hw])
     refine nextK.of [2, 7, 10, 11, 17] [0, 1, 2] (m - 1) (by omega) (by simp [hF]) ?_
     exact ⟨i + 1, (collectE g true).1, by omega, by omega, age_collect f true, hk.step kg true, by simp [dHp]⟩
    ·repeat first|(refine rg 22 [2, 7, 10, 11, 17] [2, 7, 10, 11, 17] [] ?_;simp (maxSteps := 1000000) [hF])
     refine (major_ok g kg hwl hfl hql hag).go [(0, [])] (by simp (maxSteps := 1000000) [hF, dHp]) ?_;rintro av X κ ⟨rfl, rfl, rfl⟩;simp (maxSteps := 1000000) [hF, dHp]
     repeat first|refine n4 ?_|refine n5 ?_|refine n6 ?_|(refine rg 19 [2, 7, 10, 11, 17] [2, 7, 10, 11, 17] [] ?_;simp (maxSteps := 1000000) [hF, hw])
     refine nextK.of [2, 7, 10, 11, 17] [0, 1, 2] (m - 1) (by omega) (by simp [hF]) ?_
     exact ⟨i + 1, (collectE g false).1, by omega, by omega, age_collect f false, hk.step kg false, by simp [dHp]⟩
   ·have hlv : liveOf g = V := by rw [hk.live, hV]
    repeat first|refine n1 ?_|refine n7 ?_|(refine rg 23 [7, 10, 11] [7, 10, 11, 87] [] ?_;simp (maxSteps := 1000000) [hF])
    refine (live_c g kg).go [(0, [])] (by simp (maxSteps := 1000000) [hF, dHp, hlv]) ?_;rintro av X κ ⟨rfl, rfl, rfl⟩;simp (maxSteps := 1000000) [hF, dHp, hlv]
    refine (ints_c V false false (by omega)).go [(3, []), (1, [])] (by simp (maxSteps := 1000000) [hF, dHp]) ?_;rintro av X κ ⟨rfl, rfl, rfl⟩;simp (maxSteps := 1000000) [hF, dHp]
    repeat first|refine n1 ?_|refine n2 ?_|refine n3 ?_|((first|refine rg 25 [7, 10, 11] [7, 10, 11, 18] [] ?_|refine nc ?_);simp (maxSteps := 1000000) [hF])
    refine VS.pick [7, 10, 11, 18] [0, 1, 2] (by simp [hF]) ?_;simp [hF]
    refine VS.rounds (fun m st => ∃ (i : Nat), i + m = V.length ∧ st = ⟨[(7, .ptr 0 [.d]), (10, .sub 1 [] 0 V.length false), (11, .sub 2 [] 0 V.length false), (18, avInt i)], [dHp g, .sl true () 1 (dInts V), .sl true () 1 (dLL S)], [], []⟩) ⟨V.length, 0, by omega, by simp [dHp, hSl2]⟩ ?_
    rintro m st ⟨i, hi, rfl⟩
    have hw : IntKind.i64.wrap ((i : Int) + 1) = (i + 1 : Nat) := by rw [IntWalk.i64_in _ (by omega)]; rfl
    repeat first|refine n1 ?_|((first|refine rg 26 [7, 10, 11, 18] [7, 10, 11, 18, 91] [] ?_|refine nc ?_);simp (maxSteps := 1000000) [hF])
    refine ⟨fun hlt => ?_, fun hge => ?_⟩
    ·have hlt' : i < V.length := by omega
     have hltS : i < S.length := by omega
     have hn1 := dInts_nth hlt'
     have hn2 := dLL_nth hltS
     have hgs := hk.slots V[i] (by rw [← hV]; exact List.getElem_mem hlt')
     have hSi : S[i] = slotsOf h V[i] := by simp [hSe]
     have hs8 := slots8 k V[i]
     rw [hSi] at hn2
     generalize V[i] = x at *
     obtain ⟨Q, hQ⟩ : ∃ Q, Q = slotsOf h x := ⟨_, rfl⟩
     rw [← hQ] at hn2 hs8 hgs
     repeat first|refine n1 ?_|refine n2 ?_|refine n3 ?_|(refine rg 28 [7, 10, 11, 18] [7, 10, 11, 18, 19] [] ?_;simp (maxSteps := 1000000) [hF])
     refine VS.rounds (fun m2 st => ∃ (j : Nat), j + m2 = Q.length ∧ st = ⟨[(7, .ptr 0 [.d]), (10, .sub 1 [] 0 V.length false), (11, .sub 2 [] 0 V.length false), (18, avInt i), (19, avInt j)], [dHp g, .sl true () 1 (dInts V), .sl true () 1 (dLL S)], [], []⟩) ⟨Q.length, 0, by omega, by simp [dHp]⟩ ?_
     rintro m2 st ⟨j, hj, rfl⟩
     have hwj : IntKind.i64.wrap ((j : Int) + 1) = (j + 1 : Nat) := by rw [IntWalk.i64_in _ (by omega)]; rfl
     repeat first|refine n1 ?_|((first|refine rg 29 [7, 10, 11, 18, 19] [7, 10, 11, 18, 19, 100] [] ?_|refine nc ?_);simp (maxSteps := 1000000) [hF, hn2, hlt', hltS])
     refine ⟨fun hlt2 => ?_, fun hge2 => ?_⟩
     ·have hjl : j < Q.length := by omega
      have hn3 := dInts_nth hjl
      have hg1 := get_there kg hgs.1 (s := j) (by omega)
      rw [hgs.2, if_pos hjl, List.getD_eq_getElem?_getD, List.getElem?_eq_getElem hjl, Option.getD_some] at hg1
      generalize Q[j] = y at *
      repeat first|refine n1 ?_|refine n2 ?_|refine n3 ?_|(refine rg 31 [7, 10, 11, 18, 19] [7, 10, 11, 18, 19, 20, 21] [] ?_;simp (maxSteps := 1000000) [hF, hn1, hlt'])
      refine (get_ok g kg x j).go [(0, [])] (by simp (maxSteps := 1000000) [hF, dHp, hg1, hn1, hn2, hn3, hjl, hlt', hltS]) ?_;rintro av X κ ⟨rfl, rfl, rfl⟩;simp (maxSteps := 1000000) [hF, dHp, hg1, hn1, hn2, hn3, hjl, hlt', hltS]
      repeat first|refine n1 ?_|refine n2 ?_|refine n4 ?_|refine n5 ?_|refine n6 ?_|((first|refine rg 30 [7, 10, 11, 18, 19] [7, 10, 11, 18, 19] [] ?_|refine rg 32 [7, 10, 11, 18, 19, 20, 21] [7, 10, 11, 18, 19, 125] [(9, 122)] ?_|refine nc ?_);simp (maxSteps := 1000000) [hF, hn1, hn2, hn3, hjl, hlt', hltS, hwj])
      refine nextK.of [7, 10, 11, 18, 19] [0, 1, 2] (m2 - 1) (by omega) (by simp [hF]) ?_
      exact ⟨j + 1, by omega, by simp [dHp]⟩
     ·repeat first|refine n4 ?_|refine n5 ?_|refine n6 ?_|refine n7 ?_|(refine rg 27 [7, 10, 11, 18] [7, 10, 11, 18] [] ?_;simp (maxSteps := 1000000) [hF, hw])
      refine nextK.of [7, 10, 11, 18] [0, 1, 2] (m - 1) (by omega) (by simp [hF]) ?_
      exact ⟨i + 1, by omega, by simp [dHp]⟩
    ·repeat first|refine n1 ?_|refine n7 ?_|(refine rg 34 [] [6] [] ?_;simp (maxSteps := 1000000) [hF])
     refine (sane_ok).go [] (by simp (maxSteps := 1000000) [hF]) ?_;rintro av X κ ⟨rfl, rfl, rfl⟩;simp (maxSteps := 1000000) [hF]
     (try refine nr ?_);(repeat first|refine nb_ ?_|refine nl_ ?_);refine endK.o [6] [] [] ?_;simp [hF, retK, covers, mpre]
  ·have hlv : liveOf g = V := by rw [hk.live, hV]
   repeat first|refine n1 ?_|refine n7 ?_|((first|refine rg 23 [7, 10, 11] [7, 10, 11, 87] [] ?_|refine nc ?_);simp (maxSteps := 1000000) [hF])
   refine (live_c g kg).go [(0, [])] (by simp (maxSteps := 1000000) [hF, dHp, hlv]) ?_;rintro av X κ ⟨rfl, rfl, rfl⟩;simp (maxSteps := 1000000) [hF, dHp, hlv]
   refine (ints_c V false false (by omega)).go [(3, []), (1, [])] (by simp (maxSteps := 1000000) [hF, dHp]) ?_;rintro av X κ ⟨rfl, rfl, rfl⟩;simp (maxSteps := 1000000) [hF, dHp]
   repeat first|refine n1 ?_|refine n2 ?_|refine n3 ?_|((first|refine rg 25 [7, 10, 11] [7, 10, 11, 18] [] ?_|refine nc ?_);simp (maxSteps := 1000000) [hF])
   refine VS.pick [7, 10, 11, 18] [0, 1, 2] (by simp [hF]) ?_;simp [hF]
   refine VS.rounds (fun m st => ∃ (i : Nat), i + m = V.length ∧ st = ⟨[(7, .ptr 0 [.d]), (10, .sub 1 [] 0 V.length false), (11, .sub 2 [] 0 V.length false), (18, avInt i)], [dHp g, .sl true () 1 (dInts V), .sl true () 1 (dLL S)], [], []⟩) ⟨V.length, 0, by omega, by simp [dHp, hSl2]⟩ ?_
   rintro m st ⟨i, hi, rfl⟩
   have hw : IntKind.i64.wrap ((i : Int) + 1) = (i + 1 : Nat) := by rw [IntWalk.i64_in _ (by omega)]; rfl
   repeat first|refine n1 ?_|((first|refine rg 26 [7, 10, 11, 18] [7, 10, 11, 18, 91] [] ?_|refine nc ?_);simp (maxSteps := 1000000) [hF])
   refine ⟨fun hlt => ?_, fun hge => ?_⟩
   ·have hlt' : i < V.length := by omega
    have hltS : i < S.length := by omega
    have hn1 := dInts_nth hlt'
    have hn2 := dLL_nth hltS
    have hgs := hk.slots V[i] (by rw [← hV]; exact List.getElem_mem hlt')
    have hSi : S[i] = slotsOf h V[i] := by simp [hSe]
    have hs8 := slots8 k V[i]
    rw [hSi] at hn2
    generalize V[i] = x at *
    obtain ⟨Q, hQ⟩ : ∃ Q, Q = slotsOf h x := ⟨_, rfl⟩
    rw [← hQ] at hn2 hs8 hgs
    repeat first|refine n1 ?_|refine n2 ?_|refine n3 ?_|(refine rg 28 [7, 10, 11, 18] [7, 10, 11, 18, 19] [] ?_;simp (maxSteps := 1000000) [hF])
    refine VS.rounds (fun m2 st => ∃ (j : Nat), j + m2 = Q.length ∧ st = ⟨[(7, .ptr 0 [.d]), (10, .sub 1 [] 0 V.length false), (11, .sub 2 [] 0 V.length false), (18, avInt i), (19, avInt j)], [dHp g, .sl true () 1 (dInts V), .sl true () 1 (dLL S)], [], []⟩) ⟨Q.length, 0, by omega, by simp [dHp]⟩ ?_
    rintro m2 st ⟨j, hj, rfl⟩
    have hwj : IntKind.i64.wrap ((j : Int) + 1) = (j + 1 : Nat) := by rw [IntWalk.i64_in _ (by omega)]; rfl
    repeat first|refine n1 ?_|((first|refine rg 29 [7, 10, 11, 18, 19] [7, 10, 11, 18, 19, 100] [] ?_|refine nc ?_);simp (maxSteps := 1000000) [hF, hn2, hlt', hltS])
    refine ⟨fun hlt2 => ?_, fun hge2 => ?_⟩
    ·have hjl : j < Q.length := by omega
     have hn3 := dInts_nth hjl
     have hg1 := get_there kg hgs.1 (s := j) (by omega)
     rw [hgs.2, if_pos hjl, List.getD_eq_getElem?_getD, List.getElem?_eq_getElem hjl, Option.getD_some] at hg1
     generalize Q[j] = y at *
     repeat first|refine n1 ?_|refine n2 ?_|refine n3 ?_|(refine rg 31 [7, 10, 11, 18, 19] [7, 10, 11, 18, 19, 20, 21] [] ?_;simp (maxSteps := 1000000) [hF, hn1, hlt'])
     refine (get_ok g kg x j).go [(0, [])] (by simp (maxSteps := 1000000) [hF, dHp, hg1, hn1, hn2, hn3, hjl, hlt', hltS]) ?_;rintro av X κ ⟨rfl, rfl, rfl⟩;simp (maxSteps := 1000000) [hF, dHp, hg1, hn1, hn2, hn3, hjl, hlt', hltS]
     repeat first|refine n1 ?_|refine n2 ?_|refine n4 ?_|refine n5 ?_|refine n6 ?_|((first|refine rg 30 [7, 10, 11, 18, 19] [7, 10, 11, 18, 19] [] ?_|refine rg 32 [7, 10, 11, 18, 19, 20, 21] [7, 10, 11, 18, 19, 125] [(9, 122)] ?_|refine nc ?_);simp (maxSteps := 1000000) [hF, hn1, hn2, hn3, hjl, hlt', hltS, hwj])
     refine nextK.of [7, 10, 11, 18, 19] [0, 1, 2] (m2 - 1) (by omega) (by simp [hF]) ?_
     exact ⟨j + 1, by omega, by simp [dHp]⟩
    ·repeat first|refine n4 ?_|refine n5 ?_|refine n6 ?_|refine n7 ?_|(refine rg 27 [7, 10, 11, 18] [7, 10, 11, 18] [] ?_;simp (maxSteps := 1000000) [hF, hw])
     refine nextK.of [7, 10, 11, 18] [0, 1, 2] (m - 1) (by omega) (by simp [hF]) ?_
     exact ⟨i + 1, by omega, by simp [dHp]⟩
   ·repeat first|refine n1 ?_|refine n7 ?_|(refine rg 34 [] [6] [] ?_;simp (maxSteps := 1000000) [hF])
    refine (sane_ok).go [] (by simp (maxSteps := 1000000) [hF]) ?_;rintro av X κ ⟨rfl, rfl, rfl⟩;simp (maxSteps := 1000000) [hF]
    (try refine nr ?_);(repeat first|refine nb_ ?_|refine nl_ ?_);refine endK.o [6] [] [] ?_;simp [hF, retK, covers, mpre]
end Go.Proofs.Ytfdcfjjobdnofaa

/- Proved: HeapKeeps returns true for every input, and its arguments read behind the call as before. No condition. -/
namespace Go.Proofs.Ytfdcfjjobdnofaa.heapKeeps
set_option linter.all false
open Go.Vc Go.ChangeShapes Go.WideShapes Go.ChangeAt Go.RowKit
set_option linter.unusedVariables false

theorem own : ownKnob Try.prog.godebug = none := by kernel_rfl
theorem laid : laidOutB Try.prog = true := by kernel_rfl

set_option maxRecDepth 100000 in
theorem lifted (os : Os) (started : os.Started) (H : Type) (enc : TypeId × Value → H) :
    ReturnsInHanded {} Try.checked os 5 .any (Rows.heapKeepsSpec.pre6 enc Try.prog Try.f5 Rows.heapKeepsRow.domain false) (Rows.heapKeepsSpec.post enc Try.prog Try.f5 false true false false) := by
  refine returnsInHanded_of_change (C := Try.checked) own started (by kernel_rfl) Try.func5
    (ChangeSpec.witness6 (enc := enc) (C := Try.checked) false ⟨#[], #[.int .i64 0, .slice none 0 0, .slice none 0 0], []⟩ 8 (by kernel_rfl) (by kernel_rfl) (by kernel_rfl) (by kernel_rfl)) ?_
  intro W base args ds gs before hval0 hW hcnd _
  have hval : ∀ (j : Nat) t v, Try.f5.params[j]? = some t → args[j]? = some v → Value.okWide Try.prog W .any base t v := hval0
  have hW' := hW
  obtain ⟨p, q, hA0, hV, rfl, hfz, hnd⟩ := hW
  have hA : DataW.TrodAll enc Try.prog W 0 (fun _ => true) true Try.f5.params.toList args.toList ds p := hA0
  rw [Try.params5] at hA hval
  obtain ⟨v0, vs0, d0, ds0, p0, q0, hargs0, rfl, rfl, h0, r0⟩ := trodAll_cons hA
  obtain ⟨v1, vs1, d1, ds1, p1, q1, hargs1, rfl, rfl, h1, r1⟩ := trodAll_cons r0
  obtain ⟨v2, vs2, d2, ds2, p2, q2, hargs2, rfl, rfl, h2, r2⟩ := trodAll_cons r1
  obtain ⟨rfl, rfl, rfl⟩ := trodAll_nil r2
  subst hargs2
  subst hargs1
  obtain rfl : args = #[v0, v1, v2] := by cases args; simp_all
  obtain ⟨rfl, rfl⟩ := trodVars_none hV
  obtain ⟨a0, hr0⟩ := int_of (hval 0 3 v0 rfl rfl) h0
  obtain ⟨a1, hlen1, hr1⟩ := deeds_of (hval 1 22 v1 rfl rfl) h1
  obtain ⟨a2, hlen2, hr2⟩ := ints_of (hval 2 23 v2 rfl rfl) h2
  clear hA0 hval0
  have hwalk : Calls Try.prog 5 #[v0, v1, v2] W fun e w' => e = .returned (.bool true) ∧ Below W.heap.size W w' :=
    Meets.law (hkeeps_ok a0 a1 a2 false false) (vs := [v0, v1, v2]) (I := allB W) (fun _ h => h) ⟨v0, _, rfl, hr0, ⟨v1, _, rfl, hr1, ⟨v2, _, rfl, hr2, rfl⟩⟩⟩
  refine hwalk.mono fun e W' ⟨he, bel⟩ => ?_
  subst he
  exact ⟨_, rfl, _, _, _, [], _, [], hW', trodAll_mk1 (shut_bool Try.underlying4 _), (trodAll_cons_mk (Below.trod laid (by kernel_rfl) (of_decide_eq_true (by kernel_rfl)) h0 bel fun x hx => hW'.lt x (by simp [hx])) (trodAll_cons_mk (Below.trod laid (by kernel_rfl) (of_decide_eq_true (by kernel_rfl)) h1 bel fun x hx => hW'.lt x (by simp [hx])) (trodAll_cons_mk (Below.trod laid (by kernel_rfl) (of_decide_eq_true (by kernel_rfl)) h2 bel fun x hx => hW'.lt x (by simp [hx])) trodAll_mk0))), rfl, bel.frame _, fun h => by cases h⟩

theorem over : Rows.heapKeepsRow.holds Try.pinned (OpenSpec.ofChange Rows.heapKeepsSpec) :=
  OpenClaim.holds_of_wide 5 Try.f5 rfl rfl rfl rfl rfl rfl rfl ⟨rfl, rfl, rfl, rfl, rfl⟩ rfl rfl rfl rfl rfl (by kernel_rfl) Try.func5 (by kernel_rfl)
    (of_decide_eq_true (by kernel_rfl)) (by unfold Func.isWrapper; first | (rw [if_pos (by decide +kernel)]; kernel_rfl) | (rw [if_neg (by decide +kernel)]; exact ⟨rfl, rfl⟩))
    (fun os started H enc _ => lifted os started H enc)

/-- THE STATEMENT -/
theorem proved : Rows.HeapKeepsSaid :=
  over
end Go.Proofs.Ytfdcfjjobdnofaa.heapKeeps
