/- Finals of deeds, plainly. -/
import Derived.Test.YtfdcfjjobdnofaaK8
import Derived.Test.YtfdcfjjobdnofaaRows
import Derived.WalkKit
import Derived.ProofKit
import Derived.OpenShut
import Derived.ShutString
import Derived.ChangeOld
import Derived.Carry
namespace Go.Proofs.Ytfdcfjjobdnofaa
set_option linter.all false
open Go.Vc Go.Proofs

/-- Whether a deed made a final with a tag. -/
def oldB (L : List Hd) (t : Int) : Bool := (L.take 100).any fun d => isFin d && decide (d.b = t)
theorem act_fin {d : Hd} {h : Hp} (h6 : (actD d h).d = 6) : isFin d = true ∧ (actD d h).b = d.b := by
  have h6' : (fitD d h.next.toNat).d = 6 := h6
  have hb : (actD d h).b = (fitD d h.next.toNat).b := rfl
  rw [hb]
  unfold fitD at h6' ⊢
  unfold isFin
  repeat' split at h6'
  all_goals simp_all
theorem fins_run {L : List Hd} {t : Int} : ∀ {h : Hp}, t ∈ ((runL h L).fins.map (·.2)) ++ (runL h L).queue → t ∈ (h.fins.map (·.2)) ++ h.queue ∨ ∃ d ∈ L, isFin d = true ∧ d.b = t := by
  induction L with
  | nil => exact fun h => .inl h
  | cons d l ih =>
    intro h ht
    rcases ih (h := (doE h (actD d h)).1) ht with h1 | ⟨e, he, h1⟩
    · rcases fins_do h1 with h2 | ⟨h2, h3⟩
      · exact .inl h2
      · obtain ⟨h4, h5⟩ := act_fin h2
        exact .inr ⟨d, by simp, h4, by rw [← h5, h3]⟩
    · exact .inr ⟨e, by simp [he], h1⟩
theorem played_old {nn : Int} {L : List Hd} {t : Int} (ht : t ∈ ((playedOf nn L).fins.map (·.2)) ++ (playedOf nn L).queue) : oldB L t = true := by
  rcases fins_run ht with h1 | ⟨d, hd, h1, h2⟩
  · simp [bornOf] at h1
  · rw [oldB, List.any_eq_true]
    exact ⟨d, hd, by simp [h1, h2]⟩
theorem played_none {nn : Int} {L : List Hd} (hL : ∀ d ∈ L, isFin d = false) : (playedOf nn L).fins = [] := by
  rw [← List.map_eq_nil_iff (f := fun p : Int × Int => p.2), List.eq_nil_iff_forall_not_mem]
  intro t ht
  have := played_old (nn := nn) (L := L) (t := t) (by rw [List.mem_append]; exact .inl ht)
  rw [oldB, List.any_eq_true] at this
  obtain ⟨d, hd, h1⟩ := this
  rw [hL d (List.mem_of_mem_take hd)] at h1
  simp at h1
end Go.Proofs.Ytfdcfjjobdnofaa

/- HeapMajor. -/
namespace Go.Proofs.Ytfdcfjjobdnofaa
set_option linter.all false
open Go.Vc Go.Proofs
set_option linter.unusedSimpArgs false
set_option linter.unusedVariables false
set_option maxRecDepth 100000
set_option maxHeartbeats 4000000
attribute [local irreducible] CallW EqK

theorem dLds_push (l : List Hd) (d : Hd) : (dLds l).app (.cons (.agg (.cons (.val (.int .i64 d.d)) (.cons (.val (.int .i64 d.a)) (.cons (.val (.int .i64 d.b)) (.cons (.val (.int .i64 d.c)) (.cons (.sl false () 1 (dInts d.l)) .nil)))))) .nil) = dLds (l ++ [d]) := by
 simp only [dLds, List.map_append, ← sq_app]; rfl
theorem dLds_mid1 (l : List Hd) (d : Hd) : (dLds (l ++ [d])).mid 0 (l.length + 1) = dLds (l ++ [d]) := sq_mid_all _ _ (by simp)
@[simp] theorem dLds_mid_all (l : List Hd) : (dLds l).mid 0 l.length = dLds l := sq_mid_all _ _ (by simp)
@[simp] theorem freeze_lds (l : List Hd) : (dLds l).freeze = dLds l := by
 rw [dLds, freeze_sq, List.map_map]
 congr 1
 exact List.map_congr_left fun r _ => by simp [dLd, T.freeze]
@[simp] theorem dNil_lds : dLds [] = .nil := rfl
theorem sum_le (f : Int → Nat) (l : List Int) (hf : ∀ x, f x ≤ 8) : (l.map f).sum ≤ 8 * l.length := by
 induction l with
 | nil => simp
 | cons a l ih => have := hf a; simp; omega

/-- The cells of the first objects. -/
def cellsTo (g : Hp) (i : Nat) : Nat := (((allOf g).take i).map fun x => (slotsOf g x).length).sum
theorem cellsTo_zero (g : Hp) : cellsTo g 0 = 0 := by simp [cellsTo]
theorem cellsTo_snoc {g : Hp} {i : Nat} (h : i < (allOf g).length) : cellsTo g (i + 1) = cellsTo g i + (slotsOf g (allOf g)[i]).length := by
 rw [cellsTo, List.take_add_one, List.getElem?_eq_getElem h, List.map_append, List.sum_append]; simp [cellsTo]
theorem cellsTo_le {g : Hp} (k : Ok g) (i : Nat) : cellsTo g i ≤ 16000 := by
 have h1 := sum_le (fun x => (slotsOf g x).length) ((allOf g).take i) (slots8 k)
 have h2 := all_len k
 rw [List.length_take] at h1
 unfold cellsTo; omega
theorem cellsTo_all {g : Hp} (k : Ok g) {i : Nat} (h : (allOf g).length ≤ i) : cellsTo g i = usedN g.young + usedN g.old := by
 rw [cellsTo, List.take_of_length_le h, cells_sum k]

/- cabochon/cabochonlaw27.HeapMajor -/
theorem hmajor_ok (nn : Int) (L : List Hd) (ex : Bool) : Meets Try.prog 6 [] (.cons (avInt nn) (.cons (.imm 5 (dLds L) ex) .nil)) fun av X κ => av = .val (.bool true) := by
 refine fb Try.func6 Try.ntmps6 [.tmp 4] fun w0 I0 F0 hF => ?_
 repeat first|refine n1 ?_|((first|refine rg 0 [0, 1] [0, 1] [] ?_|refine rg 1 [0, 1] [0, 1, 5] [] ?_);simp (maxSteps := 1000000) [hF])
 refine VS.hold0 5 5 (by simp) ?_
 repeat first|refine n3 ?_|(refine rg 2 [0, 1, 5] [0, 1, 5, 6] [] ?_;simp (maxSteps := 1000000) [hF])
 refine VS.rounds (fun m st => ∃ (i : Nat) (P : List Hd), i + m = L.length ∧ i ≤ 100 ∧ P.length ≤ i ∧ (∀ d ∈ P, isFin d = false) ∧ st = ⟨[(0, avInt nn), (1, .imm 5 (dLds L) ex), (5, .sub 0 [] 0 P.length false), (6, avInt i)], [.sl true () 5 (dLds P)], [], []⟩) ⟨L.length, 0, [], by omega, by omega, by simp, by simp, by simp⟩ ?_
 rintro m st ⟨i, P, hi, hi8, hPl, hPf, rfl⟩
 have hw : IntKind.i64.wrap ((i : Int) + 1) = (i + 1 : Nat) := by rw [IntWalk.i64_in _ (by omega)]; rfl
 have hend : ∀ (i : Nat) (P : List Hd), P.length ≤ 100 → (∀ d ∈ P, isFin d = false) → ∃ h g, playedOf nn P = h ∧ Fit 100 h ∧ h.fins = [] ∧ g = (collectE (collectE h false).1 false).1 ∧ Fit 101 (collectE h false).1 ∧ Fit 102 g ∧ (collectE (collectE h false).1 false).2 = 0 ∧ allOf g = liveOf g := by
  intro i P _ hPf
  have f := fit_played nn P
  obtain ⟨_, h1, h2⟩ := major_law f.fine.ok (played_none (nn := nn) hPf)
  exact ⟨_, _, rfl, f, played_none hPf, rfl, age_collect f false, age_collect (age_collect f false) false, h1, h2⟩
 repeat first|refine n1 ?_|(refine rg 3 [0, 1, 5, 6] [0, 1, 5, 6, 29] [(4, 26)] ?_;simp (maxSteps := 1000000) [hF])
 refine ⟨fun hlt => ?_, fun hge => ?_⟩
 ·repeat first|(refine nc ?_;simp (maxSteps := 1000000) [hF])
  refine ⟨fun h8 => ?_, fun h8 => ?_⟩
  ·have hlt' : i < L.length := by omega
   have hn1 := dLds_nth hlt'
   generalize L[i] = d at hn1
   have c1 : (P.length + 1) * 56 ≤ 140737488355328 := by omega
   have c2 : P.length ≤ 9223372036854775806 := by omega
   have hp := dLds_push P d
   have hm := dLds_mid1 P d
   by_cases h6 : d.d = 6
   ·repeat first|refine n1 ?_|refine n2 ?_|refine n3 ?_|refine n4 ?_|refine n5 ?_|refine n6 ?_|((first|refine rg 4 [0, 1, 5, 6] [0, 1, 5, 6] [] ?_|refine rg 5 [0, 1, 5, 6] [0, 1, 5, 6, 45] [(6, 38)] ?_|refine nc ?_);simp (maxSteps := 1000000) [hF, hn1, hlt', h6, hw])
    refine nextK.of [0, 1, 5, 6] [0] (m - 1) (by omega) (by simp [hF]) ?_
    exact ⟨i + 1, P, by omega, by omega, by omega, hPf, by simp⟩
   ·by_cases h11 : d.d = 11
    ·repeat first|refine n1 ?_|refine n2 ?_|refine n3 ?_|refine n4 ?_|refine n5 ?_|refine n6 ?_|((first|refine rg 4 [0, 1, 5, 6] [0, 1, 5, 6] [] ?_|refine rg 5 [0, 1, 5, 6] [0, 1, 5, 6, 45] [(6, 38)] ?_|refine nc ?_);simp (maxSteps := 1000000) [hF, hn1, hlt', h6, h11, hw])
     refine nextK.of [0, 1, 5, 6] [0] (m - 1) (by omega) (by simp [hF]) ?_
     exact ⟨i + 1, P, by omega, by omega, by omega, hPf, by simp⟩
    ·repeat first|refine n1 ?_|refine n2 ?_|refine n3 ?_|refine n4 ?_|refine n5 ?_|refine n6 ?_|((first|refine rg 4 [0, 1, 5, 6] [0, 1, 5, 6] [] ?_|refine rg 5 [0, 1, 5, 6] [0, 1, 5, 6, 45] [(6, 38)] ?_|refine rg 6 [0, 1, 5, 6] [0, 1, 5, 6] [] ?_|refine nc ?_);simp (maxSteps := 1000000) [hF, hn1, hlt', h6, h11, hw, hp, hm, c1, c2])
     refine nextK.of [0, 1, 5, 6] [0] (m - 1) (by omega) (by simp [hF]) ?_
     refine ⟨i + 1, P ++ [d], by omega, by omega, by simp; omega, fun e he => ?_, by simp⟩
     rcases List.mem_append.1 he with he | he
     ·exact hPf e he
     ·rw [List.mem_singleton.1 he]; simp [isFin, h6, h11]
  ·obtain ⟨h, g, hp, f, hf0, hg, f1, f2, ha, hal⟩ := hend 0 P (by omega) hPf
   have k := f.fine.ok
   have k1 := f1.fine.ok
   have k2 := f2.fine.ok
   have hall := all_len k2
   repeat first|refine n1 ?_|refine n7 ?_
   refine VS.cool 5 (by simp (maxSteps := 1000000) [hF, freeze_lds]) ?_;simp [hF, St.cool, freeze_lds]
   repeat first|(refine rg 7 [0, 5] [7, 9] [] ?_;simp (maxSteps := 1000000) [hF])
   refine (played_ok nn P false).go [] (by simp (maxSteps := 1000000) [hF, hp]) ?_;rintro av X κ ⟨rfl, rfl, rfl⟩;simp (maxSteps := 1000000) [hF, hp]
   repeat first|refine n1 ?_|refine n2 ?_|((first|refine rg 8 [7, 9] [7, 61] [] ?_|refine nc ?_);simp (maxSteps := 1000000) [hF])
   refine VS.pick [7] [1] (by simp [hF]) ?_;simp [hF]
   repeat first|(refine rg 10 [7] [7, 11] [] ?_;simp (maxSteps := 1000000) [hF])
   refine (major_ok h k (f.wl (by omega)) (f.fl (by omega)) (f.ql (by omega)) (f.ag (by omega))).go [(0, [])] (by simp (maxSteps := 1000000) [hF, dHp]) ?_;rintro av X κ ⟨rfl, rfl, rfl⟩;simp (maxSteps := 1000000) [hF, dHp]
   repeat first|refine n1 ?_|(refine rg 11 [7, 11] [7, 11, 12, 13] [] ?_;simp (maxSteps := 1000000) [hF])
   refine (major_ok (collectE h false).1 k1 (f1.wl (by omega)) (f1.fl (by omega)) (f1.ql (by omega)) (f1.ag (by omega))).go [(0, [])] (by simp (maxSteps := 1000000) [hF, dHp, ← hg, ha]) ?_;rintro av X κ ⟨rfl, rfl, rfl⟩;simp (maxSteps := 1000000) [hF, dHp, ← hg, ha]
   repeat first|refine n1 ?_|(refine rg 12 [7, 11, 12, 13] [7, 89] [(2, 74), (6, 78), (10, 82)] ?_;simp (maxSteps := 1000000) [hF])
   refine (all_c g k2).go [(0, [])] (by simp (maxSteps := 1000000) [hF, dHp]) ?_;rintro av X κ ⟨rfl, rfl, rfl⟩;simp (maxSteps := 1000000) [hF, dHp]
   refine (live_c g k2).go [(0, [])] (by simp (maxSteps := 1000000) [hF, dHp]) ?_;rintro av X κ ⟨rfl, rfl, rfl⟩;simp (maxSteps := 1000000) [hF, dHp]
   refine (ints_c (liveOf g) false false (by rw [← hal]; omega)).go [(1, []), (2, [])] (by simp (maxSteps := 1000000) [hF, dHp, hal]) ?_;rintro av X κ ⟨rfl, rfl, rfl⟩;simp (maxSteps := 1000000) [hF, dHp, hal]
   repeat first|refine n1 ?_|refine n2 ?_|((first|refine rg 14 [7] [7, 14, 15] [] ?_|refine nc ?_);simp (maxSteps := 1000000) [hF])
   refine (hused_c g k2).go [(0, [])] (by simp (maxSteps := 1000000) [hF, dHp]) ?_;rintro av X κ ⟨rfl, rfl, rfl⟩;simp (maxSteps := 1000000) [hF, dHp]
   repeat first|refine n1 ?_|((first|refine rg 15 [7, 14, 15] [7, 14, 15, 16] [] ?_|refine rg 16 [7, 14, 15, 16] [7, 14, 15, 16, 17] [] ?_);simp (maxSteps := 1000000) [hF])
   refine (all_c g k2).go [(0, [])] (by simp (maxSteps := 1000000) [hF, dHp]) ?_;rintro av X κ ⟨rfl, rfl, rfl⟩;simp (maxSteps := 1000000) [hF, dHp]
   repeat first|refine n1 ?_|refine n3 ?_|(refine rg 17 [7, 14, 15, 16, 17] [7, 14, 15, 16, 17, 18] [] ?_;simp (maxSteps := 1000000) [hF])
   refine VS.pick [7, 14, 15, 16, 17, 18] [0, 3] (by simp [hF]) ?_;simp [hF]
   refine VS.rounds (fun m st => ∃ (i : Nat), i + m = (allOf g).length ∧ st = ⟨[(7, .ptr 0 [.d]), (14, avInt (usedN g.young)), (15, avInt (usedN g.old)), (16, avInt (cellsTo g i)), (17, .sub 1 [] 0 (allOf g).length false), (18, avInt i)], [dHp g, .sl true () 1 (dInts (allOf g))], [], []⟩) ⟨(allOf g).length, 0, by omega, by simp [dHp, cellsTo_zero]⟩ ?_
   rintro m st ⟨i, hi, rfl⟩
   have hw : IntKind.i64.wrap ((i : Int) + 1) = (i + 1 : Nat) := by rw [IntWalk.i64_in _ (by omega)]; rfl
   repeat first|refine n1 ?_|((first|refine rg 18 [7, 14, 15, 16, 17, 18] [7, 14, 15, 16, 17, 18, 100] [] ?_|refine nc ?_);simp (maxSteps := 1000000) [hF])
   refine ⟨fun hlt => ?_, fun hge => ?_⟩
   ·have hlt' : i < (allOf g).length := by omega
    have hn1 := dInts_nth hlt'
    have hth : there g (allOf g)[i] = true := allOf_mem.1 (List.getElem_mem hlt')
    have hs8 := slots8 k2 (allOf g)[i]
    have hsum := cellsTo_snoc hlt'
    have hsl := cellsTo_le k2 i
    generalize cellsTo g i = S at *
    generalize (allOf g)[i] = x at *
    repeat first|refine n1 ?_|refine n2 ?_|refine n3 ?_|(refine rg 20 [7, 14, 15, 16, 17, 18] [7, 14, 15, 16, 17, 18, 19] [] ?_;simp (maxSteps := 1000000) [hF])
    refine VS.rounds (fun m2 st => ∃ (j s : Nat), j + m2 = 8 ∧ s = S + min j (slotsOf g x).length ∧ st = ⟨[(7, .ptr 0 [.d]), (14, avInt (usedN g.young)), (15, avInt (usedN g.old)), (16, avInt s), (17, .sub 1 [] 0 (allOf g).length false), (18, avInt i), (19, avInt j)], [dHp g, .sl true () 1 (dInts (allOf g))], [], []⟩) ⟨8, 0, S, by omega, by omega, by simp [dHp]⟩ ?_
    rintro m2 st ⟨j, s, hj, hs, rfl⟩
    have hwj : IntKind.i64.wrap ((j : Int) + 1) = (j + 1 : Nat) := by rw [IntWalk.i64_in _ (by omega)]; rfl
    have hws : IntKind.i64.wrap ((s : Int) + 1) = (s + 1 : Nat) := by rw [IntWalk.i64_in _ (by omega)]; rfl
    repeat first|refine n1 ?_|((first|refine rg 21 [7, 14, 15, 16, 17, 18, 19] [7, 14, 15, 16, 17, 18, 19, 104] [] ?_|refine nc ?_);simp (maxSteps := 1000000) [hF])
    refine ⟨fun hlt2 => ?_, fun hge2 => ?_⟩
    ·have hg1 := get_there k2 hth (s := j) (by omega)
     by_cases hjl : j < (slotsOf g x).length
     ·rw [if_pos hjl] at hg1
      repeat first|refine n1 ?_|refine n2 ?_|refine n3 ?_|(refine rg 23 [7, 14, 15, 16, 17, 18, 19] [7, 14, 15, 16, 17, 18, 19, 21] [] ?_;simp (maxSteps := 1000000) [hF, hn1, hlt'])
      refine (get_ok g k2 x j).go [(0, [])] (by simp (maxSteps := 1000000) [hF, dHp, hg1]) ?_;rintro av X κ ⟨rfl, rfl, rfl⟩;simp (maxSteps := 1000000) [hF, dHp, hg1]
      repeat first|refine n1 ?_|refine n4 ?_|refine n5 ?_|refine n6 ?_|((first|refine rg 22 [7, 14, 15, 16, 17, 18, 19] [7, 14, 15, 16, 17, 18, 19] [] ?_|refine rg 24 [7, 14, 15, 16, 17, 18, 19, 21] [7, 14, 15, 16, 17, 18, 19, 118] [] ?_|refine rg 25 [7, 14, 15, 16, 17, 18, 19] [7, 14, 15, 16, 17, 18, 19] [] ?_|refine nc ?_);simp (maxSteps := 1000000) [hF, hws, hwj])
      refine nextK.of [7, 14, 15, 16, 17, 18, 19] [0, 1] (m2 - 1) (by omega) (by simp [hF]) ?_
      exact ⟨j + 1, s + 1, by omega, by omega, by simp [dHp]⟩
     ·rw [if_neg hjl] at hg1
      repeat first|refine n1 ?_|refine n2 ?_|refine n3 ?_|(refine rg 23 [7, 14, 15, 16, 17, 18, 19] [7, 14, 15, 16, 17, 18, 19, 21] [] ?_;simp (maxSteps := 1000000) [hF, hn1, hlt'])
      refine (get_ok g k2 x j).go [(0, [])] (by simp (maxSteps := 1000000) [hF, dHp, hg1]) ?_;rintro av X κ ⟨rfl, rfl, rfl⟩;simp (maxSteps := 1000000) [hF, dHp, hg1]
      repeat first|refine n1 ?_|refine n2 ?_|refine n4 ?_|refine n5 ?_|refine n6 ?_|((first|refine rg 22 [7, 14, 15, 16, 17, 18, 19] [7, 14, 15, 16, 17, 18, 19] [] ?_|refine rg 24 [7, 14, 15, 16, 17, 18, 19, 21] [7, 14, 15, 16, 17, 18, 19, 118] [] ?_|refine nc ?_);simp (maxSteps := 1000000) [hF, hwj])
      refine nextK.of [7, 14, 15, 16, 17, 18, 19] [0, 1] (m2 - 1) (by omega) (by simp [hF]) ?_
      exact ⟨j + 1, s, by omega, by omega, by simp [dHp]⟩
    ·have hse : s = S + (slotsOf g x).length := by omega
     rw [← hse] at hsum
     repeat first|refine n4 ?_|refine n5 ?_|refine n6 ?_|refine n7 ?_|(refine rg 19 [7, 14, 15, 16, 17, 18] [7, 14, 15, 16, 17, 18] [] ?_;simp (maxSteps := 1000000) [hF, hw])
     refine nextK.of [7, 14, 15, 16, 17, 18] [0, 1] (m - 1) (by omega) (by simp [hF]) ?_
     exact ⟨i + 1, by omega, by simp [dHp, hsum]⟩
   ·have he := cellsTo_all k2 (i := i) (by omega)
    have hl2 := k2.lens
    have hw3 : IntKind.i64.wrap ((usedN g.young : Int) + usedN g.old) = (usedN g.young + usedN g.old : Nat) := by rw [IntWalk.i64_in _ (by omega)]; rfl
    rw [he]
    repeat first|refine n1 ?_|refine n7 ?_|(refine rg 26 [14, 15, 16] [4] [(5, 126)] ?_;simp (maxSteps := 1000000) [hF, hw3])
    refine (sane_ok).go [] (by simp (maxSteps := 1000000) [hF, hw3]) ?_;rintro av X κ ⟨rfl, rfl, rfl⟩;simp (maxSteps := 1000000) [hF, hw3]
    (try refine nr ?_);(repeat first|refine nb_ ?_|refine nl_ ?_);refine endK.o [4] [] [] ?_;simp [hF, retK, covers, mpre]
 ·obtain ⟨h, g, hp, f, hf0, hg, f1, f2, ha, hal⟩ := hend 0 P (by omega) hPf
  have k := f.fine.ok
  have k1 := f1.fine.ok
  have k2 := f2.fine.ok
  have hall := all_len k2
  repeat first|refine n1 ?_|refine n7 ?_|(refine nc ?_;simp (maxSteps := 1000000) [hF])
  refine VS.cool 5 (by simp (maxSteps := 1000000) [hF, freeze_lds]) ?_;simp [hF, St.cool, freeze_lds]
  repeat first|(refine rg 7 [0, 5] [7, 9] [] ?_;simp (maxSteps := 1000000) [hF])
  refine (played_ok nn P false).go [] (by simp (maxSteps := 1000000) [hF, hp]) ?_;rintro av X κ ⟨rfl, rfl, rfl⟩;simp (maxSteps := 1000000) [hF, hp]
  repeat first|refine n1 ?_|refine n2 ?_|((first|refine rg 8 [7, 9] [7, 61] [] ?_|refine nc ?_);simp (maxSteps := 1000000) [hF])
  refine VS.pick [7] [1] (by simp [hF]) ?_;simp [hF]
  repeat first|(refine rg 10 [7] [7, 11] [] ?_;simp (maxSteps := 1000000) [hF])
  refine (major_ok h k (f.wl (by omega)) (f.fl (by omega)) (f.ql (by omega)) (f.ag (by omega))).go [(0, [])] (by simp (maxSteps := 1000000) [hF, dHp]) ?_;rintro av X κ ⟨rfl, rfl, rfl⟩;simp (maxSteps := 1000000) [hF, dHp]
  repeat first|refine n1 ?_|(refine rg 11 [7, 11] [7, 11, 12, 13] [] ?_;simp (maxSteps := 1000000) [hF])
  refine (major_ok (collectE h false).1 k1 (f1.wl (by omega)) (f1.fl (by omega)) (f1.ql (by omega)) (f1.ag (by omega))).go [(0, [])] (by simp (maxSteps := 1000000) [hF, dHp, ← hg, ha]) ?_;rintro av X κ ⟨rfl, rfl, rfl⟩;simp (maxSteps := 1000000) [hF, dHp, ← hg, ha]
  repeat first|refine n1 ?_|(refine rg 12 [7, 11, 12, 13] [7, 89] [(2, 74), (6, 78), (10, 82)] ?_;simp (maxSteps := 1000000) [hF])
  refine (all_c g k2).go [(0, [])] (by simp (maxSteps := 1000000) [hF, dHp]) ?_;rintro av X κ ⟨rfl, rfl, rfl⟩;simp (maxSteps := 1000000) [hF, dHp]
  refine (live_c g k2).go [(0, [])] (by simp (maxSteps := 1000000) [hF, dHp]) ?_;rintro av X κ ⟨rfl, rfl, rfl⟩;simp (maxSteps := 1000000) [hF, dHp]
  refine (ints_c (liveOf g) false false (by rw [← hal]; omega)).go [(1, []), (2, [])] (by simp (maxSteps := 1000000) [hF, dHp, hal]) ?_;rintro av X κ ⟨rfl, rfl, rfl⟩;simp (maxSteps := 1000000) [hF, dHp, hal]
  repeat first|refine n1 ?_|refine n2 ?_|((first|refine rg 14 [7] [7, 14, 15] [] ?_|refine nc ?_);simp (maxSteps := 1000000) [hF])
  refine (hused_c g k2).go [(0, [])] (by simp (maxSteps := 1000000) [hF, dHp]) ?_;rintro av X κ ⟨rfl, rfl, rfl⟩;simp (maxSteps := 1000000) [hF, dHp]
  repeat first|refine n1 ?_|((first|refine rg 15 [7, 14, 15] [7, 14, 15, 16] [] ?_|refine rg 16 [7, 14, 15, 16] [7, 14, 15, 16, 17] [] ?_);simp (maxSteps := 1000000) [hF])
  refine (all_c g k2).go [(0, [])] (by simp (maxSteps := 1000000) [hF, dHp]) ?_;rintro av X κ ⟨rfl, rfl, rfl⟩;simp (maxSteps := 1000000) [hF, dHp]
  repeat first|refine n1 ?_|refine n3 ?_|(refine rg 17 [7, 14, 15, 16, 17] [7, 14, 15, 16, 17, 18] [] ?_;simp (maxSteps := 1000000) [hF])
  refine VS.pick [7, 14, 15, 16, 17, 18] [0, 3] (by simp [hF]) ?_;simp [hF]
  refine VS.rounds (fun m st => ∃ (i : Nat), i + m = (allOf g).length ∧ st = ⟨[(7, .ptr 0 [.d]), (14, avInt (usedN g.young)), (15, avInt (usedN g.old)), (16, avInt (cellsTo g i)), (17, .sub 1 [] 0 (allOf g).length false), (18, avInt i)], [dHp g, .sl true () 1 (dInts (allOf g))], [], []⟩) ⟨(allOf g).length, 0, by omega, by simp [dHp, cellsTo_zero]⟩ ?_
  rintro m st ⟨i, hi, rfl⟩
  have hw : IntKind.i64.wrap ((i : Int) + 1) = (i + 1 : Nat) := by rw [IntWalk.i64_in _ (by omega)]; rfl
  repeat first|refine n1 ?_|((first|refine rg 18 [7, 14, 15, 16, 17, 18] [7, 14, 15, 16, 17, 18, 100] [] ?_|refine nc ?_);simp (maxSteps := 1000000) [hF])
  refine ⟨fun hlt => ?_, fun hge => ?_⟩
  ·have hlt' : i < (allOf g).length := by omega
   have hn1 := dInts_nth hlt'
   have hth : there g (allOf g)[i] = true := allOf_mem.1 (List.getElem_mem hlt')
   have hs8 := slots8 k2 (allOf g)[i]
   have hsum := cellsTo_snoc hlt'
   have hsl := cellsTo_le k2 i
   generalize cellsTo g i = S at *
   generalize (allOf g)[i] = x at *
   repeat first|refine n1 ?_|refine n2 ?_|refine n3 ?_|(refine rg 20 [7, 14, 15, 16, 17, 18] [7, 14, 15, 16, 17, 18, 19] [] ?_;simp (maxSteps := 1000000) [hF])
   refine VS.rounds (fun m2 st => ∃ (j s : Nat), j + m2 = 8 ∧ s = S + min j (slotsOf g x).length ∧ st = ⟨[(7, .ptr 0 [.d]), (14, avInt (usedN g.young)), (15, avInt (usedN g.old)), (16, avInt s), (17, .sub 1 [] 0 (allOf g).length false), (18, avInt i), (19, avInt j)], [dHp g, .sl true () 1 (dInts (allOf g))], [], []⟩) ⟨8, 0, S, by omega, by omega, by simp [dHp]⟩ ?_
   rintro m2 st ⟨j, s, hj, hs, rfl⟩
   have hwj : IntKind.i64.wrap ((j : Int) + 1) = (j + 1 : Nat) := by rw [IntWalk.i64_in _ (by omega)]; rfl
   have hws : IntKind.i64.wrap ((s : Int) + 1) = (s + 1 : Nat) := by rw [IntWalk.i64_in _ (by omega)]; rfl
   repeat first|refine n1 ?_|((first|refine rg 21 [7, 14, 15, 16, 17, 18, 19] [7, 14, 15, 16, 17, 18, 19, 104] [] ?_|refine nc ?_);simp (maxSteps := 1000000) [hF])
   refine ⟨fun hlt2 => ?_, fun hge2 => ?_⟩
   ·have hg1 := get_there k2 hth (s := j) (by omega)
    by_cases hjl : j < (slotsOf g x).length
    ·rw [if_pos hjl] at hg1
     repeat first|refine n1 ?_|refine n2 ?_|refine n3 ?_|(refine rg 23 [7, 14, 15, 16, 17, 18, 19] [7, 14, 15, 16, 17, 18, 19, 21] [] ?_;simp (maxSteps := 1000000) [hF, hn1, hlt'])
     refine (get_ok g k2 x j).go [(0, [])] (by simp (maxSteps := 1000000) [hF, dHp, hg1]) ?_;rintro av X κ ⟨rfl, rfl, rfl⟩;simp (maxSteps := 1000000) [hF, dHp, hg1]
     repeat first|refine n1 ?_|refine n4 ?_|refine n5 ?_|refine n6 ?_|((first|refine rg 22 [7, 14, 15, 16, 17, 18, 19] [7, 14, 15, 16, 17, 18, 19] [] ?_|refine rg 24 [7, 14, 15, 16, 17, 18, 19, 21] [7, 14, 15, 16, 17, 18, 19, 118] [] ?_|refine rg 25 [7, 14, 15, 16, 17, 18, 19] [7, 14, 15, 16, 17, 18, 19] [] ?_|refine nc ?_);simp (maxSteps := 1000000) [hF, hws, hwj])
     refine nextK.of [7, 14, 15, 16, 17, 18, 19] [0, 1] (m2 - 1) (by omega) (by simp [hF]) ?_
     exact ⟨j + 1, s + 1, by omega, by omega, by simp [dHp]⟩
    ·rw [if_neg hjl] at hg1
     repeat first|refine n1 ?_|refine n2 ?_|refine n3 ?_|(refine rg 23 [7, 14, 15, 16, 17, 18, 19] [7, 14, 15, 16, 17, 18, 19, 21] [] ?_;simp (maxSteps := 1000000) [hF, hn1, hlt'])
     refine (get_ok g k2 x j).go [(0, [])] (by simp (maxSteps := 1000000) [hF, dHp, hg1]) ?_;rintro av X κ ⟨rfl, rfl, rfl⟩;simp (maxSteps := 1000000) [hF, dHp, hg1]
     repeat first|refine n1 ?_|refine n2 ?_|refine n4 ?_|refine n5 ?_|refine n6 ?_|((first|refine rg 22 [7, 14, 15, 16, 17, 18, 19] [7, 14, 15, 16, 17, 18, 19] [] ?_|refine rg 24 [7, 14, 15, 16, 17, 18, 19, 21] [7, 14, 15, 16, 17, 18, 19, 118] [] ?_|refine nc ?_);simp (maxSteps := 1000000) [hF, hwj])
     refine nextK.of [7, 14, 15, 16, 17, 18, 19] [0, 1] (m2 - 1) (by omega) (by simp [hF]) ?_
     exact ⟨j + 1, s, by omega, by omega, by simp [dHp]⟩
   ·have hse : s = S + (slotsOf g x).length := by omega
    rw [← hse] at hsum
    repeat first|refine n4 ?_|refine n5 ?_|refine n6 ?_|refine n7 ?_|(refine rg 19 [7, 14, 15, 16, 17, 18] [7, 14, 15, 16, 17, 18] [] ?_;simp (maxSteps := 1000000) [hF, hw])
    refine nextK.of [7, 14, 15, 16, 17, 18] [0, 1] (m - 1) (by omega) (by simp [hF]) ?_
    exact ⟨i + 1, by omega, by simp [dHp, hsum]⟩
  ·have he := cellsTo_all k2 (i := i) (by omega)
   have hl2 := k2.lens
   have hw3 : IntKind.i64.wrap ((usedN g.young : Int) + usedN g.old) = (usedN g.young + usedN g.old : Nat) := by rw [IntWalk.i64_in _ (by omega)]; rfl
   rw [he]
   repeat first|refine n1 ?_|refine n7 ?_|(refine rg 26 [14, 15, 16] [4] [(5, 126)] ?_;simp (maxSteps := 1000000) [hF, hw3])
   refine (sane_ok).go [] (by simp (maxSteps := 1000000) [hF, hw3]) ?_;rintro av X κ ⟨rfl, rfl, rfl⟩;simp (maxSteps := 1000000) [hF, hw3]
   (try refine nr ?_);(repeat first|refine nb_ ?_|refine nl_ ?_);refine endK.o [4] [] [] ?_;simp [hF, retK, covers, mpre]
end Go.Proofs.Ytfdcfjjobdnofaa

/- Proved: HeapMajor returns true for every input, and its arguments read behind the call as before. No condition. -/
namespace Go.Proofs.Ytfdcfjjobdnofaa.heapMajor
set_option linter.all false
open Go.Vc Go.ChangeShapes Go.WideShapes Go.ChangeAt Go.RowKit
set_option linter.unusedVariables false

theorem own : ownKnob Try.prog.godebug = none := by kernel_rfl
theorem laid : laidOutB Try.prog = true := by kernel_rfl

set_option maxRecDepth 100000 in
theorem lifted (os : Os) (started : os.Started) (H : Type) (enc : TypeId × Value → H) :
    ReturnsInHanded {} Try.checked os 6 .any (Rows.heapMajorSpec.pre6 enc Try.prog Try.f6 Rows.heapMajorRow.domain false) (Rows.heapMajorSpec.post enc Try.prog Try.f6 false true false false) := by
  refine returnsInHanded_of_change (C := Try.checked) own started (by kernel_rfl) Try.func6
    (ChangeSpec.witness6 (enc := enc) (C := Try.checked) false ⟨#[], #[.int .i64 0, .slice none 0 0], []⟩ 8 (by kernel_rfl) (by kernel_rfl) (by kernel_rfl) (by kernel_rfl)) ?_
  intro W base args ds gs before hval0 hW hcnd _
  have hval : ∀ (j : Nat) t v, Try.f6.params[j]? = some t → args[j]? = some v → Value.okWide Try.prog W .any base t v := hval0
  have hW' := hW
  obtain ⟨p, q, hA0, hV, rfl, hfz, hnd⟩ := hW
  have hA : DataW.TrodAll enc Try.prog W 0 (fun _ => true) true Try.f6.params.toList args.toList ds p := hA0
  rw [Try.params6] at hA hval
  obtain ⟨v0, vs0, d0, ds0, p0, q0, hargs0, rfl, rfl, h0, r0⟩ := trodAll_cons hA
  obtain ⟨v1, vs1, d1, ds1, p1, q1, hargs1, rfl, rfl, h1, r1⟩ := trodAll_cons r0
  obtain ⟨rfl, rfl, rfl⟩ := trodAll_nil r1
  subst hargs1
  obtain rfl : args = #[v0, v1] := by cases args; simp_all
  obtain ⟨rfl, rfl⟩ := trodVars_none hV
  obtain ⟨a0, hr0⟩ := int_of (hval 0 3 v0 rfl rfl) h0
  obtain ⟨a1, hlen1, hr1⟩ := deeds_of (hval 1 22 v1 rfl rfl) h1
  clear hA0 hval0
  have hwalk : Calls Try.prog 6 #[v0, v1] W fun e w' => e = .returned (.bool true) ∧ Below W.heap.size W w' :=
    Meets.law (hmajor_ok a0 a1 false) (vs := [v0, v1]) (I := allB W) (fun _ h => h) ⟨v0, _, rfl, hr0, ⟨v1, _, rfl, hr1, rfl⟩⟩
  refine hwalk.mono fun e W' ⟨he, bel⟩ => ?_
  subst he
  exact ⟨_, rfl, _, _, _, [], _, [], hW', trodAll_mk1 (shut_bool Try.underlying4 _), (trodAll_cons_mk (Below.trod laid (by kernel_rfl) (of_decide_eq_true (by kernel_rfl)) h0 bel fun x hx => hW'.lt x (by simp [hx])) (trodAll_cons_mk (Below.trod laid (by kernel_rfl) (of_decide_eq_true (by kernel_rfl)) h1 bel fun x hx => hW'.lt x (by simp [hx])) trodAll_mk0)), rfl, bel.frame _, fun h => by cases h⟩

theorem over : Rows.heapMajorRow.holds Try.pinned (OpenSpec.ofChange Rows.heapMajorSpec) :=
  OpenClaim.holds_of_wide 6 Try.f6 rfl rfl rfl rfl rfl rfl rfl ⟨rfl, rfl, rfl, rfl, rfl⟩ rfl rfl rfl rfl rfl (by kernel_rfl) Try.func6 (by kernel_rfl)
    (of_decide_eq_true (by kernel_rfl)) (by unfold Func.isWrapper; first | (rw [if_pos (by decide +kernel)]; kernel_rfl) | (rw [if_neg (by decide +kernel)]; exact ⟨rfl, rfl⟩))
    (fun os started H enc _ => lifted os started H enc)

/-- THE STATEMENT -/
theorem proved : Rows.HeapMajorSaid :=
  over
end Go.Proofs.Ytfdcfjjobdnofaa.heapMajor
