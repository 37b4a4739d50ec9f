/- Collections and Play's deeds. -/
import Derived.Test.YtfdcfjjobdnofaaK7
import Derived.Test.YtfdcfjjobdnofaaK6
import Derived.Test.YtfdcfjjobdnofaaK5
import Derived.ChangeMaps5
namespace Go.Proofs.Ytfdcfjjobdnofaa
set_option linter.all false
open Go.Vc Go.Proofs
set_option linter.unusedSimpArgs false
set_option linter.unusedVariables false
set_option maxRecDepth 100000
set_option maxHeartbeats 4000000
attribute [local irreducible] CallW EqK

/- (*cabochon/heap.Heap).Minor -/
theorem minor_ok (h : Hp) (k : Ok h) (hwl : h.weak.length ≤ 1000000) (hfl : h.fins.length ≤ 1000000) (hql : h.queue.length ≤ 1000000) (hag : ∀ o ∈ h.young, o.age ≤ 1000000) : Meets Try.prog 12 [dHp h] (.cons (.ptr 0 [.d]) .nil)
  fun av X κ => av = two ((collectE h true).2, 0) ∧ X = [dHp (collectE h true).1] ∧ κ = [(0, [.d])] := by
 refine fb Try.func12 Try.ntmps12 [.tmp 2, .tmp 3] fun w0 I0 F0 hF => ?_
 repeat first|refine n1 ?_|((first|refine rg 0 [0] [0] [] ?_|refine rg 1 [0] [2, 3] [] ?_);simp (maxSteps := 1000000) [hF])
 refine (collect_ok h k true hwl hfl hql hag).go [(0, [])] (by simp (maxSteps := 1000000) [hF, dHp]) ?_;rintro av X κ ⟨rfl, rfl, rfl⟩;simp (maxSteps := 1000000) [hF, dHp]
 (try refine nr ?_);(repeat first|refine nb_ ?_|refine nl_ ?_);refine endK.o [2, 3] [0] [(0, [.d])] ?_;simp [hF, retK, covers, mpre, dHp]
/- (*cabochon/heap.Heap).Major -/
theorem major_ok (h : Hp) (k : Ok h) (hwl : h.weak.length ≤ 1000000) (hfl : h.fins.length ≤ 1000000) (hql : h.queue.length ≤ 1000000) (hag : ∀ o ∈ h.young, o.age ≤ 1000000) : Meets Try.prog 13 [dHp h] (.cons (.ptr 0 [.d]) .nil)
  fun av X κ => av = two ((collectE h false).2, 0) ∧ X = [dHp (collectE h false).1] ∧ κ = [(0, [.d])] := by
 refine fb Try.func13 Try.ntmps13 [.tmp 2, .tmp 3] fun w0 I0 F0 hF => ?_
 repeat first|refine n1 ?_|((first|refine rg 0 [0] [0] [] ?_|refine rg 1 [0] [2, 3] [] ?_);simp (maxSteps := 1000000) [hF])
 refine (collect_ok h k false hwl hfl hql hag).go [(0, [])] (by simp (maxSteps := 1000000) [hF, dHp]) ?_;rintro av X κ ⟨rfl, rfl, rfl⟩;simp (maxSteps := 1000000) [hF, dHp]
 (try refine nr ?_);(repeat first|refine nb_ ?_|refine nl_ ?_);refine endK.o [2, 3] [0] [(0, [.d])] ?_;simp [hF, retK, covers, mpre, dHp]

/- (*cabochon/heap.Heap).Roots -/
theorem roots_c (h : Hp) (k : Ok h) (l z : List Int) (ex : Bool) (hll : l.length ≤ 100000000) : Meets Try.prog 21 [.sl true () 1 (dInts (l ++ z)), dHp h] (.cons (.ptr 1 [.d]) (.cons (.sub 0 [] 0 l.length ex) .nil))
  fun av X κ => av = avInt (rootsOf h l).2 ∧ X = [.sl true () 1 (dInts (l ++ z)), dHp (rootsOf h l).1] ∧ κ = [(1, [.d])] := by
 have hm : (dInts (l ++ z)).mid 0 l.length = dInts l := by rw [ints_mid]; simp
 have m1 := Meets.warmK (P := Try.prog) (f := 21) (d0 := .sl true () 1 (dInts (l ++ z))) (Y := [dHp h]) (t := .cons (.ptr 1 [.d]) (.cons (.sub 0 [] 0 l.length ex) .nil))
  (by simp only [AV.chilled, hm, freeze_ints]; exact roots_ok h k l ex hll) (by rintro av X κ ⟨rfl, rfl, rfl⟩; exact ⟨rfl, by simp⟩)
 refine Meets.mono m1 ?_
 rintro av X κ ⟨_, _, _, ⟨rfl, rfl, rfl⟩, rfl, rfl, rfl⟩
 exact ⟨rfl, rfl, rfl⟩

abbrev avDeed (d a b c : Int) : AV := .agg (.cons (avInt d) (.cons (avInt a) (.cons (avInt b) (.cons (avInt c) .nil))))
/- (*cabochon/heap.Heap).do -/
theorem do_ok (h : Hp) (n : Nat) (f : Fit n h) (hn : n ≤ 100000) (d a b c : Int) : Meets Try.prog 60 [dHp h] (.cons (.ptr 0 [.d]) (.cons (avDeed d a b c) .nil))
  fun av X κ => av = two (doP h d a b c).2 ∧ X = [dHp (doP h d a b c).1] ∧ κ = [(0, [.d])] := by
 have k := f.fine.ok
 by_cases h0 : d = 0
 ·subst h0
  have hc : doP h 0 a b c = doE h ⟨0, a, b, c, nz [a, b, c]⟩ := by rw [doP, if_pos (by omega)]
  rw [doE_0] at hc
  refine fb Try.func60 Try.ntmps60 [.tmp 4, .tmp 5] fun w0 I0 F0 hF => ?_
  repeat first|refine n1 ?_|refine n3 ?_|((first|refine rg 0 [0, 1] [0, 3] [] ?_|refine rg 1 [0, 3] [0, 3, 7] [] ?_|refine rg 2 [0, 3, 7] [0, 3, 7, 8] [] ?_|refine rg 3 [0, 3] [4, 5] [] ?_|refine nc ?_);simp (maxSteps := 1000000) [hF, dHp])
  refine (make_ok h k a (by have := f.next; omega)).go [(0, [])] (by simp (maxSteps := 1000000) [hF, dHp]) ?_;rintro av X κ ⟨rfl, rfl, rfl⟩;simp (maxSteps := 1000000) [hF, dHp]
  (try refine nr ?_);(repeat first|refine nb_ ?_|refine nl_ ?_);refine endK.o [4, 5] [0] [(0, [.d])] ?_;simp [hF, retK, covers, mpre, hc, dHp]
 by_cases h1 : d = 1
 ·subst h1
  have hc : doP h 1 a b c = doE h ⟨1, a, b, c, nz [a, b, c]⟩ := by rw [doP, if_pos (by omega)]
  rw [doE_1] at hc
  refine fb Try.func60 Try.ntmps60 [.tmp 4, .tmp 5] fun w0 I0 F0 hF => ?_
  repeat first|refine n1 ?_|refine n3 ?_|((first|refine rg 0 [0, 1] [0, 3] [] ?_|refine rg 1 [0, 3] [0, 3, 7] [] ?_|refine rg 2 [0, 3, 7] [0, 3, 7, 8] [] ?_|refine rg 4 [0, 3, 7] [0, 3, 7, 16] [] ?_|refine rg 5 [0, 3] [4, 5] [] ?_|refine nc ?_);simp (maxSteps := 1000000) [hF, dHp])
  refine (set_ok h k a b c).go [(0, [])] (by simp (maxSteps := 1000000) [hF, dHp]) ?_;rintro av X κ ⟨rfl, rfl, rfl⟩;simp (maxSteps := 1000000) [hF, dHp]
  (try refine nr ?_);(repeat first|refine nb_ ?_|refine nl_ ?_);refine endK.o [4, 5] [0] [(0, [.d])] ?_;simp [hF, retK, covers, mpre, hc, dHp]
 by_cases h2 : d = 2
 ·subst h2
  have hc : doP h 2 a b c = doE h ⟨2, a, b, c, nz [a, b, c]⟩ := by rw [doP, if_pos (by omega)]
  rw [doE_2] at hc
  refine fb Try.func60 Try.ntmps60 [.tmp 4, .tmp 5] fun w0 I0 F0 hF => ?_
  repeat first|refine n1 ?_|refine n3 ?_|((first|refine rg 0 [0, 1] [0, 3] [] ?_|refine rg 1 [0, 3] [0, 3, 7] [] ?_|refine rg 2 [0, 3, 7] [0, 3, 7, 8] [] ?_|refine rg 4 [0, 3, 7] [0, 3, 7, 16] [] ?_|refine rg 6 [0, 3, 7] [0, 3, 7, 26] [] ?_|refine rg 7 [0, 3] [4, 5] [] ?_|refine nc ?_);simp (maxSteps := 1000000) [hF, dHp])
  have hd3 : dInts [a, b, c] = .cons (.val (.int .i64 a)) (.cons (.val (.int .i64 b)) (.cons (.val (.int .i64 c)) .nil)) := rfl
  refine (deleteFunc_ds true [a, b, c] (by simp) (fun x => decide (x = 0)) (fun i hi => zer_ok _)).go [(2, [])] (by simp (maxSteps := 1000000) [hF, hd3]) ?_;rintro av X κ ⟨e, z, he, rfl, rfl, rfl⟩;simp (maxSteps := 1000000) [hF, hd3]
  have hnl : (nz [a, b, c]).length ≤ 100000000 := Nat.le_trans (List.length_filter_le _ _) (by simp)
  have hnz : ([a, b, c].filter fun x => !decide (x = 0)) = nz [a, b, c] := rfl
  trace_state
  refine (roots_c h k (nz [a, b, c]) z e hnl).go [(2, []), (0, [])] (by simp (maxSteps := 1000000) [hF, dHp, hnz]) ?_;rintro av X κ ⟨rfl, rfl, rfl⟩;simp (maxSteps := 1000000) [hF, dHp, hnz]
  (try refine nr ?_);(repeat first|refine nb_ ?_|refine nl_ ?_);refine endK.o [4, 5] [0] [(0, [.d])] ?_;simp [hF, retK, covers, mpre, hc, dHp]
 by_cases h3 : d = 3
 ·subst h3
  have hc : doP h 3 a b c = doE h ⟨3, a, b, c, nz [a, b, c]⟩ := by rw [doP, if_pos (by omega)]
  rw [doE_3] at hc
  refine fb Try.func60 Try.ntmps60 [.tmp 4, .tmp 5] fun w0 I0 F0 hF => ?_
  repeat first|refine n1 ?_|refine n3 ?_|((first|refine rg 0 [0, 1] [0, 3] [] ?_|refine rg 1 [0, 3] [0, 3, 7] [] ?_|refine rg 2 [0, 3, 7] [0, 3, 7, 8] [] ?_|refine rg 4 [0, 3, 7] [0, 3, 7, 16] [] ?_|refine rg 6 [0, 3, 7] [0, 3, 7, 26] [] ?_|refine rg 8 [0, 3, 7] [0, 3, 7, 38] [] ?_|refine rg 9 [0] [4, 5] [] ?_|refine nc ?_);simp (maxSteps := 1000000) [hF, dHp])
  refine (minor_ok h k (f.wl hn) (f.fl hn) (f.ql hn) (f.ag hn)).go [(0, [])] (by simp (maxSteps := 1000000) [hF, dHp]) ?_;rintro av X κ ⟨rfl, rfl, rfl⟩;simp (maxSteps := 1000000) [hF, dHp]
  (try refine nr ?_);(repeat first|refine nb_ ?_|refine nl_ ?_);refine endK.o [4, 5] [0] [(0, [.d])] ?_;simp [hF, retK, covers, mpre, hc, dHp]
 by_cases h4 : d = 4
 ·subst h4
  have hc : doP h 4 a b c = doE h ⟨4, a, b, c, nz [a, b, c]⟩ := by rw [doP, if_pos (by omega)]
  rw [doE_4] at hc
  refine fb Try.func60 Try.ntmps60 [.tmp 4, .tmp 5] fun w0 I0 F0 hF => ?_
  repeat first|refine n1 ?_|refine n3 ?_|((first|refine rg 0 [0, 1] [0, 3] [] ?_|refine rg 1 [0, 3] [0, 3, 7] [] ?_|refine rg 2 [0, 3, 7] [0, 3, 7, 8] [] ?_|refine rg 4 [0, 3, 7] [0, 3, 7, 16] [] ?_|refine rg 6 [0, 3, 7] [0, 3, 7, 26] [] ?_|refine rg 8 [0, 3, 7] [0, 3, 7, 38] [] ?_|refine rg 10 [0, 3, 7] [0, 3, 7, 44] [] ?_|refine rg 11 [0] [4, 5] [] ?_|refine nc ?_);simp (maxSteps := 1000000) [hF, dHp])
  refine (major_ok h k (f.wl hn) (f.fl hn) (f.ql hn) (f.ag hn)).go [(0, [])] (by simp (maxSteps := 1000000) [hF, dHp]) ?_;rintro av X κ ⟨rfl, rfl, rfl⟩;simp (maxSteps := 1000000) [hF, dHp]
  (try refine nr ?_);(repeat first|refine nb_ ?_|refine nl_ ?_);refine endK.o [4, 5] [0] [(0, [.d])] ?_;simp [hF, retK, covers, mpre, hc, dHp]
 by_cases h5 : d = 5
 ·subst h5
  have hc : doP h 5 a b c = doE h ⟨5, a, b, c, nz [a, b, c]⟩ := by rw [doP, if_pos (by omega)]
  rw [doE_5] at hc
  refine fb Try.func60 Try.ntmps60 [.tmp 4, .tmp 5] fun w0 I0 F0 hF => ?_
  repeat first|refine n1 ?_|refine n3 ?_|((first|refine rg 0 [0, 1] [0, 3] [] ?_|refine rg 1 [0, 3] [0, 3, 7] [] ?_|refine rg 2 [0, 3, 7] [0, 3, 7, 8] [] ?_|refine rg 4 [0, 3, 7] [0, 3, 7, 16] [] ?_|refine rg 6 [0, 3, 7] [0, 3, 7, 26] [] ?_|refine rg 8 [0, 3, 7] [0, 3, 7, 38] [] ?_|refine rg 10 [0, 3, 7] [0, 3, 7, 44] [] ?_|refine rg 12 [0, 3, 7] [0, 3, 7, 50] [] ?_|refine rg 13 [0, 3] [4, 5] [] ?_|refine nc ?_);simp (maxSteps := 1000000) [hF, dHp])
  refine (weak_ok h k (f.wl hn) a b).go [(0, [])] (by simp (maxSteps := 1000000) [hF, dHp]) ?_;rintro av X κ ⟨rfl, rfl, rfl⟩;simp (maxSteps := 1000000) [hF, dHp]
  (try refine nr ?_);(repeat first|refine nb_ ?_|refine nl_ ?_);refine endK.o [4, 5] [0] [(0, [.d])] ?_;simp [hF, retK, covers, mpre, hc, dHp]
 by_cases h6 : d = 6
 ·subst h6
  have hc : doP h 6 a b c = doE h ⟨6, a, b, c, nz [a, b, c]⟩ := by rw [doP, if_pos (by omega)]
  rw [doE_6] at hc
  refine fb Try.func60 Try.ntmps60 [.tmp 4, .tmp 5] fun w0 I0 F0 hF => ?_
  repeat first|refine n1 ?_|refine n3 ?_|((first|refine rg 0 [0, 1] [0, 3] [] ?_|refine rg 1 [0, 3] [0, 3, 7] [] ?_|refine rg 2 [0, 3, 7] [0, 3, 7, 8] [] ?_|refine rg 4 [0, 3, 7] [0, 3, 7, 16] [] ?_|refine rg 6 [0, 3, 7] [0, 3, 7, 26] [] ?_|refine rg 8 [0, 3, 7] [0, 3, 7, 38] [] ?_|refine rg 10 [0, 3, 7] [0, 3, 7, 44] [] ?_|refine rg 12 [0, 3, 7] [0, 3, 7, 50] [] ?_|refine rg 14 [0, 3, 7] [0, 3, 7, 60] [] ?_|refine rg 15 [0, 3] [4, 5] [] ?_|refine nc ?_);simp (maxSteps := 1000000) [hF, dHp])
  refine (final_ok h k (f.fl hn) a b).go [(0, [])] (by simp (maxSteps := 1000000) [hF, dHp]) ?_;rintro av X κ ⟨rfl, rfl, rfl⟩;simp (maxSteps := 1000000) [hF, dHp]
  (try refine nr ?_);(repeat first|refine nb_ ?_|refine nl_ ?_);refine endK.o [4, 5] [0] [(0, [.d])] ?_;simp [hF, retK, covers, mpre, hc, dHp]
 by_cases h7 : d = 7
 ·subst h7
  have hc : doP h 7 a b c = doE h ⟨7, a, b, c, nz [a, b, c]⟩ := by rw [doP, if_pos (by omega)]
  rw [doE_7] at hc
  refine fb Try.func60 Try.ntmps60 [.tmp 4, .tmp 5] fun w0 I0 F0 hF => ?_
  repeat first|refine n1 ?_|refine n3 ?_|((first|refine rg 0 [0, 1] [0, 3] [] ?_|refine rg 1 [0, 3] [0, 3, 7] [] ?_|refine rg 2 [0, 3, 7] [0, 3, 7, 8] [] ?_|refine rg 4 [0, 3, 7] [0, 3, 7, 16] [] ?_|refine rg 6 [0, 3, 7] [0, 3, 7, 26] [] ?_|refine rg 8 [0, 3, 7] [0, 3, 7, 38] [] ?_|refine rg 10 [0, 3, 7] [0, 3, 7, 44] [] ?_|refine rg 12 [0, 3, 7] [0, 3, 7, 50] [] ?_|refine rg 14 [0, 3, 7] [0, 3, 7, 60] [] ?_|refine rg 16 [0, 7] [0, 68] [] ?_|refine rg 17 [0] [4, 5] [] ?_|refine nc ?_);simp (maxSteps := 1000000) [hF, dHp])
  refine (take_ok h k (f.ql hn)).go [(0, [])] (by simp (maxSteps := 1000000) [hF, dHp]) ?_;rintro av X κ ⟨rfl, rfl, rfl⟩;simp (maxSteps := 1000000) [hF, dHp]
  (try refine nr ?_);(repeat first|refine nb_ ?_|refine nl_ ?_);refine endK.o [4, 5] [0] [(0, [.d])] ?_;simp [hF, retK, covers, mpre, hc, dHp]
 have hc : doP h d a b c = (h, -1, 0) := by rw [doP, if_neg (by omega)]
 refine fb Try.func60 Try.ntmps60 [.tmp 4, .tmp 5] fun w0 I0 F0 hF => ?_
 repeat first|refine n1 ?_|refine n2 ?_|refine n3 ?_|refine n4 ?_|((first|refine rg 0 [0, 1] [0, 3] [] ?_|refine rg 1 [0, 3] [0, 3, 7] [] ?_|refine rg 2 [0, 3, 7] [0, 3, 7, 8] [] ?_|refine rg 4 [0, 3, 7] [0, 3, 7, 16] [] ?_|refine rg 6 [0, 3, 7] [0, 3, 7, 26] [] ?_|refine rg 8 [0, 3, 7] [0, 3, 7, 38] [] ?_|refine rg 10 [0, 3, 7] [0, 3, 7, 44] [] ?_|refine rg 12 [0, 3, 7] [0, 3, 7, 50] [] ?_|refine rg 14 [0, 3, 7] [0, 3, 7, 60] [] ?_|refine rg 16 [0, 7] [0, 68] [] ?_|refine nc ?_);simp (maxSteps := 1000000) [hF, h0, h1, h2, h3, h4, h5, h6, h7])
 refine VS.widen [(0, [.d])] (by simp [covers, mpre]) ?_
 repeat first|(refine rg 18 [] [4, 5] [] ?_;simp (maxSteps := 1000000) [hF])
 (try refine nr ?_);(repeat first|refine nb_ ?_|refine nl_ ?_);refine endK.o [4, 5] [0] [(0, [.d])] ?_;simp [hF, retK, covers, mpre, hc]
/- (*cabochon/cabochonref27.Heap).Roots -/
theorem eroots_c (h : Hp) (k : Ok h) (l : List Int) (ex : Bool) (hll : l.length ≤ 100000000) : Meets Try.prog 63 [.sl true () 1 (dInts l), eHp h] (.cons (.ptr 1 [.d]) (.cons (.sub 0 [] 0 l.length ex) .nil))
  fun av X κ => av = avInt (rootsOf h l).2 ∧ X = [.sl true () 1 (dInts l), eHp (rootsOf h l).1] ∧ κ = [(1, [.d])] := by
 have m1 := Meets.warmK (P := Try.prog) (f := 63) (d0 := .sl true () 1 (dInts l)) (Y := [eHp h]) (t := .cons (.ptr 1 [.d]) (.cons (.sub 0 [] 0 l.length ex) .nil))
  (by simp only [AV.chilled, dInts_mid, freeze_ints]; exact eroots_ok h k l ex hll) (by rintro av X κ ⟨rfl, rfl, rfl⟩; exact ⟨rfl, by simp⟩)
 refine Meets.mono m1 ?_
 rintro av X κ ⟨_, _, _, ⟨rfl, rfl, rfl⟩, rfl, rfl, rfl⟩
 exact ⟨rfl, rfl, rfl⟩

abbrev avDeedR (d a b c : Int) : AV := .agg (.cons (avInt d) (.cons (avInt a) (.cons (avInt b) (.cons (avInt c) .nil))))
/- (*cabochon/cabochonref27.Heap).Does -/
theorem edoes_2 (h : Hp) (k : Ok h) (a b c : Int) : Meets Try.prog 31 [eHp h] (.cons (.ptr 0 [.d]) (.cons (avDeedR 2 a b c) .nil))
  fun av X κ => av = avInt (tellP h 2 a b c) ∧ X = [eHp (doP h 2 a b c).1] ∧ κ = [(0, [.d])] := by
 have hc : doP h 2 a b c = doE h ⟨2, a, b, c, nz [a, b, c]⟩ := by rw [doP, if_pos (by omega)]
 rw [doE_2] at hc
 refine fb Try.func31 Try.ntmps31 [.tmp 4] fun w0 I0 F0 hF => ?_
 repeat first|refine n1 ?_|refine n3 ?_|((first|refine rg 0 [0, 1] [0, 3] [] ?_|refine rg 1 [0, 3] [0, 3, 5] [] ?_|refine rg 2 [0, 3, 5] [0, 3, 5] [] ?_|refine rg 3 [0, 3, 5] [0, 3, 5, 11] [] ?_|refine rg 5 [0, 3, 5, 11] [0, 3, 5, 11, 12] [] ?_|refine rg 7 [0, 3, 5, 11] [0, 3, 5, 11, 21] [] ?_|refine rg 9 [0, 3, 5, 11] [0, 3, 5, 11, 31] [] ?_|refine rg 10 [0, 3, 5] [0, 3, 5, 7] [] ?_|refine rg 11 [0, 3, 5, 7] [0, 5, 7, 39, 40, 41] [] ?_|refine nc ?_);simp (maxSteps := 1000000) [hF, eHp])
 refine VS.hold0 7 1 (by simp) ?_
 obtain ⟨L, hL⟩ : ∃ L, L = [a, b, c] := ⟨_, rfl⟩
 have hL3 : L.length = 3 := by rw [hL]; rfl
 rw [← hL] at hc
 have hd3 : dInts L = .cons (.val (.int .i64 a)) (.cons (.val (.int .i64 b)) (.cons (.val (.int .i64 c)) .nil)) := by rw [hL]; rfl
 rw [← hd3]
 clear hd3
 refine VS.pick [0, 5, 7, 39, 40, 41] [0, 1, 2, 3] (by simp [hF]) ?_;simp [hF]
 refine VS.rounds (fun m st => ∃ (i : Nat) (P : List Int), i + m = 3 ∧ P = nz (L.take i) ∧ st = ⟨[(0, .ptr 0 [.d]), (5, avInt 0), (7, .sub 3 [] 0 P.length false), (39, .sub 2 [] 0 3 true), (40, avInt 3), (41, avInt i)],
  [eHp h, .box true () (.agg (.cons (.val (.int .i64 2)) (dInts L))), .sl true () 1 (dInts L), .sl true () 1 (dInts P)], [], []⟩) ⟨3, 0, [], by omega, by simp [nz], by simp [eHp]⟩ ?_
 rintro m st ⟨i, P, hi, hP, rfl⟩
 have hPl : P.length ≤ 3 := by
  rw [hP]
  refine Nat.le_trans (List.length_filter_le _ _) ?_
  rw [List.length_take]; omega
 repeat first|refine n1 ?_|((first|refine rg 12 [0, 5, 7, 39, 40, 41] [0, 5, 7, 39, 40, 41, 42] [] ?_|refine nc ?_);simp (maxSteps := 1000000) [hF])
 refine ⟨fun hlt => ?_, fun hge => ?_⟩
 ·have hlt : i < L.length := by omega
  have hi3 : i < 3 := by omega
  have hi3' : (i : Int) < 3 := by omega
  have hn1 := dInts_nth hlt
  have hw : IntKind.i64.wrap ((i : Int) + 1) = (i + 1 : Nat) := by rw [IntWalk.i64_in _ (by omega)]; rfl
  have c1 : (P.length + 1) * 8 ≤ 140737488355328 := by omega
  have c2 : P.length ≤ 9223372036854775806 := by omega
  have hst : nz (L.take (i + 1)) = if L[i] = 0 then P else P ++ [L[i]] := by
   rw [take_succ_at hlt, nz, List.filter_append]
   show nz (L.take i) ++ _ = _
   rw [← hP]
   by_cases hz : L[i] = 0
   ·rw [if_pos hz, List.filter_cons_of_neg (by simp [hz])]; simp
   ·rw [if_neg hz, List.filter_cons_of_pos (by simp [hz])]; rfl
  generalize L[i] = v at *
  have hm1 : (dInts (P ++ [v])).mid 0 (P.length + 1) = dInts (P ++ [v]) := sq_mid_all _ _ (by simp)
  by_cases hz : v = 0
  ·rw [if_pos hz] at hst
   repeat first|refine n1 ?_|refine n2 ?_|refine n3 ?_|refine n4 ?_|refine n5 ?_|refine n6 ?_|((first|refine rg 13 [0, 5, 7, 39, 40, 41] [0, 5, 7, 9, 39, 40, 41] [] ?_|refine rg 14 [0, 5, 7, 9, 39, 40, 41] [0, 5, 7, 9, 39, 40, 41, 46] [] ?_|refine rg 16 [0, 5, 7, 39, 40, 41] [0, 5, 7, 39, 40, 41] [] ?_|refine nc ?_);simp (maxSteps := 1000000) [hF, hn1, hi3, hi3', hz, hw])
   refine nextK.of [0, 5, 7, 39, 40, 41] [0, 1, 2, 3] (m - 1) (by omega) (by simp [hF]) ?_
   exact ⟨i + 1, P, by omega, hst.symm, by simp⟩
  ·rw [if_neg hz] at hst
   repeat first|refine n1 ?_|refine n2 ?_|refine n3 ?_|refine n4 ?_|refine n5 ?_|refine n6 ?_|((first|refine rg 13 [0, 5, 7, 39, 40, 41] [0, 5, 7, 9, 39, 40, 41] [] ?_|refine rg 14 [0, 5, 7, 9, 39, 40, 41] [0, 5, 7, 9, 39, 40, 41, 46] [] ?_|refine rg 15 [0, 5, 7, 9, 39, 40, 41] [0, 5, 7, 39, 40, 41] [] ?_|refine rg 16 [0, 5, 7, 39, 40, 41] [0, 5, 7, 39, 40, 41] [] ?_|refine nc ?_);simp (maxSteps := 1000000) [hF, hn1, hi3, hi3', hz, c1, c2, hm1, hw])
   refine nextK.of [0, 5, 7, 39, 40, 41] [0, 1, 2, 3] (m - 1) (by omega) (by simp [hF]) ?_
   exact ⟨i + 1, _, by omega, hst.symm, by simp⟩
 ·have hPf : P = nz L := by rw [hP, List.take_of_length_le (by omega)]
  by_cases he : (rootsOf h P).2 = 0
  ·have ht : tellP h 2 a b c = 0 := by rw [tellP, hc, ← hPf, if_pos he]
   repeat first|refine n7 ?_|refine n8 ?_|refine n0 ?_|(refine rg 17 [0, 5, 7] [5, 6] [] ?_;simp (maxSteps := 1000000) [hF])
   refine (eroots_c h k P false (by omega)).go [(3, []), (0, [])] (by simp (maxSteps := 1000000) [hF, eHp]) ?_;rintro av X κ ⟨rfl, rfl, rfl⟩;simp (maxSteps := 1000000) [hF, eHp]
   repeat first|refine n1 ?_|refine n2 ?_|refine n4 ?_|((first|refine rg 28 [5, 6] [5, 6, 96] [] ?_|refine rg 30 [5] [4] [] ?_|refine nc ?_);simp (maxSteps := 1000000) [hF, he])
   (try refine nr ?_);(repeat first|refine nb_ ?_|refine nl_ ?_);refine endK.o [4] [0] [(0, [.d])] ?_;simp [hF, retK, covers, mpre, ht, hc, eHp, ← hPf]
  ·have ht : tellP h 2 a b c = -(rootsOf h P).2 := by rw [tellP, hc, ← hPf, if_neg he]
   have hsm : 0 ≤ (rootsOf h P).2 ∧ (rootsOf h P).2 ≤ 9 := roots_small h P
   have hw : IntKind.i64.wrap (-(rootsOf h P).2) = -(rootsOf h P).2 := IntWalk.i64_in _ (by omega)
   repeat first|refine n7 ?_|refine n8 ?_|refine n0 ?_|(refine rg 17 [0, 5, 7] [5, 6] [] ?_;simp (maxSteps := 1000000) [hF])
   refine (eroots_c h k P false (by omega)).go [(3, []), (0, [])] (by simp (maxSteps := 1000000) [hF, eHp]) ?_;rintro av X κ ⟨rfl, rfl, rfl⟩;simp (maxSteps := 1000000) [hF, eHp]
   repeat first|refine n1 ?_|refine n4 ?_|((first|refine rg 28 [5, 6] [5, 6, 96] [] ?_|refine rg 29 [6] [4] [] ?_|refine nc ?_);simp (maxSteps := 1000000) [hF, he, hw])
   (try refine nr ?_);(repeat first|refine nb_ ?_|refine nl_ ?_);refine endK.o [4] [0] [(0, [.d])] ?_;simp [hF, retK, covers, mpre, ht, hc, eHp, ← hPf]
/- (*cabochon/cabochonref27.Heap).Minor -/
theorem eminor_ok (h : Hp) (k : Ok h) (hwl : h.weak.length ≤ 1000000) (hfl : h.fins.length ≤ 1000000) (hql : h.queue.length ≤ 1000000) (hag : ∀ o ∈ h.young, o.age ≤ 1000000) : Meets Try.prog 64 [eHp h] (.cons (.ptr 0 [.d]) .nil)
  fun av X κ => av = two ((collectE h true).2, 0) ∧ X = [eHp (collectE h true).1] ∧ κ = [(0, [.d])] := by
 refine fb Try.func64 Try.ntmps64 [.tmp 2, .tmp 3] fun w0 I0 F0 hF => ?_
 repeat first|refine n1 ?_|((first|refine rg 0 [0] [0] [] ?_|refine rg 1 [0] [0, 5] [] ?_);simp (maxSteps := 1000000) [hF])
 refine (no_c h).go [(0, [])] (by simp (maxSteps := 1000000) [hF, eHp]) ?_;rintro av X κ ⟨rfl, rfl, rfl⟩;simp (maxSteps := 1000000) [hF, eHp]
 repeat first|refine n1 ?_|refine n2 ?_|((first|refine rg 3 [0] [2, 3] [] ?_|refine nc ?_);simp (maxSteps := 1000000) [hF])
 refine (ecollect_ok h k true hwl hfl hql hag).go [(0, [])] (by simp (maxSteps := 1000000) [hF, eHp]) ?_;rintro av X κ ⟨rfl, rfl, rfl⟩;simp (maxSteps := 1000000) [hF, eHp]
 (try refine nr ?_);(repeat first|refine nb_ ?_|refine nl_ ?_);refine endK.o [2, 3] [0] [(0, [.d])] ?_;simp [hF, retK, covers, mpre, eHp]
/- (*cabochon/cabochonref27.Heap).Major -/
theorem emajor_ok (h : Hp) (k : Ok h) (hwl : h.weak.length ≤ 1000000) (hfl : h.fins.length ≤ 1000000) (hql : h.queue.length ≤ 1000000) (hag : ∀ o ∈ h.young, o.age ≤ 1000000) : Meets Try.prog 65 [eHp h] (.cons (.ptr 0 [.d]) .nil)
  fun av X κ => av = two ((collectE h false).2, 0) ∧ X = [eHp (collectE h false).1] ∧ κ = [(0, [.d])] := by
 refine fb Try.func65 Try.ntmps65 [.tmp 2, .tmp 3] fun w0 I0 F0 hF => ?_
 repeat first|refine n1 ?_|((first|refine rg 0 [0] [0] [] ?_|refine rg 1 [0] [0, 5] [] ?_);simp (maxSteps := 1000000) [hF])
 refine (no_c h).go [(0, [])] (by simp (maxSteps := 1000000) [hF, eHp]) ?_;rintro av X κ ⟨rfl, rfl, rfl⟩;simp (maxSteps := 1000000) [hF, eHp]
 repeat first|refine n1 ?_|refine n2 ?_|((first|refine rg 3 [0] [2, 3] [] ?_|refine nc ?_);simp (maxSteps := 1000000) [hF])
 refine (ecollect_ok h k false hwl hfl hql hag).go [(0, [])] (by simp (maxSteps := 1000000) [hF, eHp]) ?_;rintro av X κ ⟨rfl, rfl, rfl⟩;simp (maxSteps := 1000000) [hF, eHp]
 (try refine nr ?_);(repeat first|refine nb_ ?_|refine nl_ ?_);refine endK.o [2, 3] [0] [(0, [.d])] ?_;simp [hF, retK, covers, mpre, eHp]

/- (*cabochon/cabochonref27.Heap).Does -/
theorem edoes_ok (h : Hp) (n : Nat) (f : Fit n h) (hn : n ≤ 100000) (d a b c : Int) : Meets Try.prog 31 [eHp h] (.cons (.ptr 0 [.d]) (.cons (avDeedR d a b c) .nil))
  fun av X κ => av = avInt (tellP h d a b c) ∧ X = [eHp (doP h d a b c).1] ∧ κ = [(0, [.d])] := by
 have k := f.fine.ok
 by_cases h0 : d = 0
 ·subst h0
  have hc : doP h 0 a b c = doE h ⟨0, a, b, c, nz [a, b, c]⟩ := by rw [doP, if_pos (by omega)]
  rw [doE_0] at hc
  refine fb Try.func31 Try.ntmps31 [.tmp 4] fun w0 I0 F0 hF => ?_
  repeat first|refine n1 ?_|refine n3 ?_|((first|refine rg 0 [0, 1] [0, 3] [] ?_|refine rg 1 [0, 3] [0, 3, 5] [] ?_|refine rg 2 [0, 3, 5] [0, 3, 5] [] ?_|refine rg 3 [0, 3, 5] [0, 3, 5, 11] [] ?_|refine rg 5 [0, 3, 5, 11] [0, 3, 5, 11, 12] [] ?_|refine rg 6 [0, 3] [5, 6] [] ?_|refine nc ?_);simp (maxSteps := 1000000) [hF, eHp])
  by_cases he : (makeOf h a).2.2 = 0
  ·have ht : tellP h 0 a b c = (makeOf h a).2.1 := by rw [tellP, hc, if_pos he]
   refine (emake_ok h k a (by have := f.next; omega)).go [(0, [])] (by simp (maxSteps := 1000000) [hF, eHp]) ?_;rintro av X κ ⟨rfl, rfl, rfl⟩;simp (maxSteps := 1000000) [hF, eHp]
   repeat first|refine n1 ?_|refine n2 ?_|refine n4 ?_|((first|refine rg 28 [5, 6] [5, 6, 96] [] ?_|refine rg 30 [5] [4] [] ?_|refine nc ?_);simp (maxSteps := 1000000) [hF, he])
   (try refine nr ?_);(repeat first|refine nb_ ?_|refine nl_ ?_);refine endK.o [4] [0] [(0, [.d])] ?_;simp [hF, retK, covers, mpre, ht, hc, eHp]
  ·have ht : tellP h 0 a b c = -(makeOf h a).2.2 := by rw [tellP, hc, if_neg he]
   have hsm : 0 ≤ (makeOf h a).2.2 ∧ (makeOf h a).2.2 ≤ 9 := make_small h a
   have hw : IntKind.i64.wrap (-(makeOf h a).2.2) = -(makeOf h a).2.2 := IntWalk.i64_in _ (by omega)
   refine (emake_ok h k a (by have := f.next; omega)).go [(0, [])] (by simp (maxSteps := 1000000) [hF, eHp]) ?_;rintro av X κ ⟨rfl, rfl, rfl⟩;simp (maxSteps := 1000000) [hF, eHp]
   repeat first|refine n1 ?_|refine n4 ?_|((first|refine rg 28 [5, 6] [5, 6, 96] [] ?_|refine rg 29 [6] [4] [] ?_|refine nc ?_);simp (maxSteps := 1000000) [hF, he, hw])
   (try refine nr ?_);(repeat first|refine nb_ ?_|refine nl_ ?_);refine endK.o [4] [0] [(0, [.d])] ?_;simp [hF, retK, covers, mpre, ht, hc, eHp]
 by_cases h1 : d = 1
 ·subst h1
  have hc : doP h 1 a b c = doE h ⟨1, a, b, c, nz [a, b, c]⟩ := by rw [doP, if_pos (by omega)]
  rw [doE_1] at hc
  refine fb Try.func31 Try.ntmps31 [.tmp 4] fun w0 I0 F0 hF => ?_
  repeat first|refine n1 ?_|refine n3 ?_|((first|refine rg 0 [0, 1] [0, 3] [] ?_|refine rg 1 [0, 3] [0, 3, 5] [] ?_|refine rg 2 [0, 3, 5] [0, 3, 5] [] ?_|refine rg 3 [0, 3, 5] [0, 3, 5, 11] [] ?_|refine rg 5 [0, 3, 5, 11] [0, 3, 5, 11, 12] [] ?_|refine rg 7 [0, 3, 5, 11] [0, 3, 5, 11, 21] [] ?_|refine rg 8 [0, 3, 5] [5, 6] [] ?_|refine nc ?_);simp (maxSteps := 1000000) [hF, eHp])
  by_cases he : (setOf h a b c).2 = 0
  ·have ht : tellP h 1 a b c = 0 := by rw [tellP, hc, if_pos he]
   refine (eset_ok h k a b c).go [(0, [])] (by simp (maxSteps := 1000000) [hF, eHp]) ?_;rintro av X κ ⟨rfl, rfl, rfl⟩;simp (maxSteps := 1000000) [hF, eHp]
   repeat first|refine n1 ?_|refine n2 ?_|refine n4 ?_|((first|refine rg 28 [5, 6] [5, 6, 96] [] ?_|refine rg 30 [5] [4] [] ?_|refine nc ?_);simp (maxSteps := 1000000) [hF, he])
   (try refine nr ?_);(repeat first|refine nb_ ?_|refine nl_ ?_);refine endK.o [4] [0] [(0, [.d])] ?_;simp [hF, retK, covers, mpre, ht, hc, eHp]
  ·have ht : tellP h 1 a b c = -(setOf h a b c).2 := by rw [tellP, hc, if_neg he]
   have hsm : 0 ≤ (setOf h a b c).2 ∧ (setOf h a b c).2 ≤ 9 := set_small h a b c
   have hw : IntKind.i64.wrap (-(setOf h a b c).2) = -(setOf h a b c).2 := IntWalk.i64_in _ (by omega)
   refine (eset_ok h k a b c).go [(0, [])] (by simp (maxSteps := 1000000) [hF, eHp]) ?_;rintro av X κ ⟨rfl, rfl, rfl⟩;simp (maxSteps := 1000000) [hF, eHp]
   repeat first|refine n1 ?_|refine n4 ?_|((first|refine rg 28 [5, 6] [5, 6, 96] [] ?_|refine rg 29 [6] [4] [] ?_|refine nc ?_);simp (maxSteps := 1000000) [hF, he, hw])
   (try refine nr ?_);(repeat first|refine nb_ ?_|refine nl_ ?_);refine endK.o [4] [0] [(0, [.d])] ?_;simp [hF, retK, covers, mpre, ht, hc, eHp]
 by_cases h2 : d = 2
 ·subst h2
  exact edoes_2 h k a b c
 by_cases h3 : d = 3
 ·subst h3
  have hc : doP h 3 a b c = doE h ⟨3, a, b, c, nz [a, b, c]⟩ := by rw [doP, if_pos (by omega)]
  rw [doE_3] at hc
  refine fb Try.func31 Try.ntmps31 [.tmp 4] fun w0 I0 F0 hF => ?_
  repeat first|refine n1 ?_|refine n3 ?_|((first|refine rg 0 [0, 1] [0, 3] [] ?_|refine rg 1 [0, 3] [0, 3, 5] [] ?_|refine rg 2 [0, 3, 5] [0, 3, 5] [] ?_|refine rg 3 [0, 3, 5] [0, 3, 5, 11] [] ?_|refine rg 5 [0, 3, 5, 11] [0, 3, 5, 11, 12] [] ?_|refine rg 7 [0, 3, 5, 11] [0, 3, 5, 11, 21] [] ?_|refine rg 9 [0, 3, 5, 11] [0, 3, 5, 11, 31] [] ?_|refine rg 18 [0, 3, 5, 11] [0, 3, 5, 11, 55] [] ?_|refine rg 19 [0] [5, 6] [] ?_|refine nc ?_);simp (maxSteps := 1000000) [hF, eHp])
  have ht : tellP h 3 a b c = (collectE h true).2 := by rw [tellP, hc]; rfl
  refine (eminor_ok h k (f.wl hn) (f.fl hn) (f.ql hn) (f.ag hn)).go [(0, [])] (by simp (maxSteps := 1000000) [hF, eHp]) ?_;rintro av X κ ⟨rfl, rfl, rfl⟩;simp (maxSteps := 1000000) [hF, eHp]
  repeat first|refine n1 ?_|refine n2 ?_|refine n4 ?_|((first|refine rg 28 [5, 6] [5, 6, 96] [] ?_|refine rg 30 [5] [4] [] ?_|refine nc ?_);simp (maxSteps := 1000000) [hF])
  (try refine nr ?_);(repeat first|refine nb_ ?_|refine nl_ ?_);refine endK.o [4] [0] [(0, [.d])] ?_;simp [hF, retK, covers, mpre, ht, hc, eHp]
 by_cases h4 : d = 4
 ·subst h4
  have hc : doP h 4 a b c = doE h ⟨4, a, b, c, nz [a, b, c]⟩ := by rw [doP, if_pos (by omega)]
  rw [doE_4] at hc
  refine fb Try.func31 Try.ntmps31 [.tmp 4] fun w0 I0 F0 hF => ?_
  repeat first|refine n1 ?_|refine n3 ?_|((first|refine rg 0 [0, 1] [0, 3] [] ?_|refine rg 1 [0, 3] [0, 3, 5] [] ?_|refine rg 2 [0, 3, 5] [0, 3, 5] [] ?_|refine rg 3 [0, 3, 5] [0, 3, 5, 11] [] ?_|refine rg 5 [0, 3, 5, 11] [0, 3, 5, 11, 12] [] ?_|refine rg 7 [0, 3, 5, 11] [0, 3, 5, 11, 21] [] ?_|refine rg 9 [0, 3, 5, 11] [0, 3, 5, 11, 31] [] ?_|refine rg 18 [0, 3, 5, 11] [0, 3, 5, 11, 55] [] ?_|refine rg 20 [0, 3, 5, 11] [0, 3, 5, 11, 62] [] ?_|refine rg 21 [0] [5, 6] [] ?_|refine nc ?_);simp (maxSteps := 1000000) [hF, eHp])
  have ht : tellP h 4 a b c = (collectE h false).2 := by rw [tellP, hc]; rfl
  refine (emajor_ok h k (f.wl hn) (f.fl hn) (f.ql hn) (f.ag hn)).go [(0, [])] (by simp (maxSteps := 1000000) [hF, eHp]) ?_;rintro av X κ ⟨rfl, rfl, rfl⟩;simp (maxSteps := 1000000) [hF, eHp]
  repeat first|refine n1 ?_|refine n2 ?_|refine n4 ?_|((first|refine rg 28 [5, 6] [5, 6, 96] [] ?_|refine rg 30 [5] [4] [] ?_|refine nc ?_);simp (maxSteps := 1000000) [hF])
  (try refine nr ?_);(repeat first|refine nb_ ?_|refine nl_ ?_);refine endK.o [4] [0] [(0, [.d])] ?_;simp [hF, retK, covers, mpre, ht, hc, eHp]
 by_cases h5 : d = 5
 ·subst h5
  have hc : doP h 5 a b c = doE h ⟨5, a, b, c, nz [a, b, c]⟩ := by rw [doP, if_pos (by omega)]
  rw [doE_5] at hc
  refine fb Try.func31 Try.ntmps31 [.tmp 4] fun w0 I0 F0 hF => ?_
  repeat first|refine n1 ?_|refine n3 ?_|((first|refine rg 0 [0, 1] [0, 3] [] ?_|refine rg 1 [0, 3] [0, 3, 5] [] ?_|refine rg 2 [0, 3, 5] [0, 3, 5] [] ?_|refine rg 3 [0, 3, 5] [0, 3, 5, 11] [] ?_|refine rg 5 [0, 3, 5, 11] [0, 3, 5, 11, 12] [] ?_|refine rg 7 [0, 3, 5, 11] [0, 3, 5, 11, 21] [] ?_|refine rg 9 [0, 3, 5, 11] [0, 3, 5, 11, 31] [] ?_|refine rg 18 [0, 3, 5, 11] [0, 3, 5, 11, 55] [] ?_|refine rg 20 [0, 3, 5, 11] [0, 3, 5, 11, 62] [] ?_|refine rg 22 [0, 3, 5, 11] [0, 3, 5, 11, 69] [] ?_|refine rg 23 [0, 3] [5, 6] [] ?_|refine nc ?_);simp (maxSteps := 1000000) [hF, eHp])
  by_cases he : (weakOf h a b).2.2 = 0
  ·have ht : tellP h 5 a b c = (weakOf h a b).2.1 := by rw [tellP, hc, if_pos he]
   refine (eweak_ok h k (f.wl hn) a b).go [(0, [])] (by simp (maxSteps := 1000000) [hF, eHp]) ?_;rintro av X κ ⟨rfl, rfl, rfl⟩;simp (maxSteps := 1000000) [hF, eHp]
   repeat first|refine n1 ?_|refine n2 ?_|refine n4 ?_|((first|refine rg 28 [5, 6] [5, 6, 96] [] ?_|refine rg 30 [5] [4] [] ?_|refine nc ?_);simp (maxSteps := 1000000) [hF, he])
   (try refine nr ?_);(repeat first|refine nb_ ?_|refine nl_ ?_);refine endK.o [4] [0] [(0, [.d])] ?_;simp [hF, retK, covers, mpre, ht, hc, eHp]
  ·have ht : tellP h 5 a b c = -(weakOf h a b).2.2 := by rw [tellP, hc, if_neg he]
   have hsm : 0 ≤ (weakOf h a b).2.2 ∧ (weakOf h a b).2.2 ≤ 9 := weak_small h a b
   have hw : IntKind.i64.wrap (-(weakOf h a b).2.2) = -(weakOf h a b).2.2 := IntWalk.i64_in _ (by omega)
   refine (eweak_ok h k (f.wl hn) a b).go [(0, [])] (by simp (maxSteps := 1000000) [hF, eHp]) ?_;rintro av X κ ⟨rfl, rfl, rfl⟩;simp (maxSteps := 1000000) [hF, eHp]
   repeat first|refine n1 ?_|refine n4 ?_|((first|refine rg 28 [5, 6] [5, 6, 96] [] ?_|refine rg 29 [6] [4] [] ?_|refine nc ?_);simp (maxSteps := 1000000) [hF, he, hw])
   (try refine nr ?_);(repeat first|refine nb_ ?_|refine nl_ ?_);refine endK.o [4] [0] [(0, [.d])] ?_;simp [hF, retK, covers, mpre, ht, hc, eHp]
 by_cases h6 : d = 6
 ·subst h6
  have hc : doP h 6 a b c = doE h ⟨6, a, b, c, nz [a, b, c]⟩ := by rw [doP, if_pos (by omega)]
  rw [doE_6] at hc
  refine fb Try.func31 Try.ntmps31 [.tmp 4] fun w0 I0 F0 hF => ?_
  repeat first|refine n1 ?_|refine n3 ?_|((first|refine rg 0 [0, 1] [0, 3] [] ?_|refine rg 1 [0, 3] [0, 3, 5] [] ?_|refine rg 2 [0, 3, 5] [0, 3, 5] [] ?_|refine rg 3 [0, 3, 5] [0, 3, 5, 11] [] ?_|refine rg 5 [0, 3, 5, 11] [0, 3, 5, 11, 12] [] ?_|refine rg 7 [0, 3, 5, 11] [0, 3, 5, 11, 21] [] ?_|refine rg 9 [0, 3, 5, 11] [0, 3, 5, 11, 31] [] ?_|refine rg 18 [0, 3, 5, 11] [0, 3, 5, 11, 55] [] ?_|refine rg 20 [0, 3, 5, 11] [0, 3, 5, 11, 62] [] ?_|refine rg 22 [0, 3, 5, 11] [0, 3, 5, 11, 69] [] ?_|refine rg 24 [0, 3, 5, 11] [0, 3, 5, 11, 80] [] ?_|refine rg 25 [0, 3, 5] [5, 6] [] ?_|refine nc ?_);simp (maxSteps := 1000000) [hF, eHp])
  by_cases he : (finalOf h a b).2 = 0
  ·have ht : tellP h 6 a b c = 0 := by rw [tellP, hc, if_pos he]
   refine (efinal_ok h k (f.fl hn) a b).go [(0, [])] (by simp (maxSteps := 1000000) [hF, eHp]) ?_;rintro av X κ ⟨rfl, rfl, rfl⟩;simp (maxSteps := 1000000) [hF, eHp]
   repeat first|refine n1 ?_|refine n2 ?_|refine n4 ?_|((first|refine rg 28 [5, 6] [5, 6, 96] [] ?_|refine rg 30 [5] [4] [] ?_|refine nc ?_);simp (maxSteps := 1000000) [hF, he])
   (try refine nr ?_);(repeat first|refine nb_ ?_|refine nl_ ?_);refine endK.o [4] [0] [(0, [.d])] ?_;simp [hF, retK, covers, mpre, ht, hc, eHp]
  ·have ht : tellP h 6 a b c = -(finalOf h a b).2 := by rw [tellP, hc, if_neg he]
   have hsm : 0 ≤ (finalOf h a b).2 ∧ (finalOf h a b).2 ≤ 9 := final_small h a b
   have hw : IntKind.i64.wrap (-(finalOf h a b).2) = -(finalOf h a b).2 := IntWalk.i64_in _ (by omega)
   refine (efinal_ok h k (f.fl hn) a b).go [(0, [])] (by simp (maxSteps := 1000000) [hF, eHp]) ?_;rintro av X κ ⟨rfl, rfl, rfl⟩;simp (maxSteps := 1000000) [hF, eHp]
   repeat first|refine n1 ?_|refine n4 ?_|((first|refine rg 28 [5, 6] [5, 6, 96] [] ?_|refine rg 29 [6] [4] [] ?_|refine nc ?_);simp (maxSteps := 1000000) [hF, he, hw])
   (try refine nr ?_);(repeat first|refine nb_ ?_|refine nl_ ?_);refine endK.o [4] [0] [(0, [.d])] ?_;simp [hF, retK, covers, mpre, ht, hc, eHp]
 by_cases h7 : d = 7
 ·subst h7
  have hc : doP h 7 a b c = doE h ⟨7, a, b, c, nz [a, b, c]⟩ := by rw [doP, if_pos (by omega)]
  rw [doE_7] at hc
  refine fb Try.func31 Try.ntmps31 [.tmp 4] fun w0 I0 F0 hF => ?_
  repeat first|refine n1 ?_|refine n3 ?_|((first|refine rg 0 [0, 1] [0, 3] [] ?_|refine rg 1 [0, 3] [0, 3, 5] [] ?_|refine rg 2 [0, 3, 5] [0, 3, 5] [] ?_|refine rg 3 [0, 3, 5] [0, 3, 5, 11] [] ?_|refine rg 5 [0, 3, 5, 11] [0, 3, 5, 11, 12] [] ?_|refine rg 7 [0, 3, 5, 11] [0, 3, 5, 11, 21] [] ?_|refine rg 9 [0, 3, 5, 11] [0, 3, 5, 11, 31] [] ?_|refine rg 18 [0, 3, 5, 11] [0, 3, 5, 11, 55] [] ?_|refine rg 20 [0, 3, 5, 11] [0, 3, 5, 11, 62] [] ?_|refine rg 22 [0, 3, 5, 11] [0, 3, 5, 11, 69] [] ?_|refine rg 24 [0, 3, 5, 11] [0, 3, 5, 11, 80] [] ?_|refine rg 26 [0, 11] [0, 88] [] ?_|refine rg 27 [0] [5, 6] [] ?_|refine nc ?_);simp (maxSteps := 1000000) [hF, eHp])
  by_cases he : (takeOf h).2.2 = 0
  ·have ht : tellP h 7 a b c = (takeOf h).2.1 := by rw [tellP, hc, if_pos he]
   refine (etake_ok h (f.ql hn)).go [(0, [])] (by simp (maxSteps := 1000000) [hF, eHp]) ?_;rintro av X κ ⟨rfl, rfl, rfl⟩;simp (maxSteps := 1000000) [hF, eHp]
   repeat first|refine n1 ?_|refine n2 ?_|refine n4 ?_|((first|refine rg 28 [5, 6] [5, 6, 96] [] ?_|refine rg 30 [5] [4] [] ?_|refine nc ?_);simp (maxSteps := 1000000) [hF, he])
   (try refine nr ?_);(repeat first|refine nb_ ?_|refine nl_ ?_);refine endK.o [4] [0] [(0, [.d])] ?_;simp [hF, retK, covers, mpre, ht, hc, eHp]
  ·have ht : tellP h 7 a b c = -(takeOf h).2.2 := by rw [tellP, hc, if_neg he]
   have hsm : 0 ≤ (takeOf h).2.2 ∧ (takeOf h).2.2 ≤ 9 := take_small h
   have hw : IntKind.i64.wrap (-(takeOf h).2.2) = -(takeOf h).2.2 := IntWalk.i64_in _ (by omega)
   refine (etake_ok h (f.ql hn)).go [(0, [])] (by simp (maxSteps := 1000000) [hF, eHp]) ?_;rintro av X κ ⟨rfl, rfl, rfl⟩;simp (maxSteps := 1000000) [hF, eHp]
   repeat first|refine n1 ?_|refine n4 ?_|((first|refine rg 28 [5, 6] [5, 6, 96] [] ?_|refine rg 29 [6] [4] [] ?_|refine nc ?_);simp (maxSteps := 1000000) [hF, he, hw])
   (try refine nr ?_);(repeat first|refine nb_ ?_|refine nl_ ?_);refine endK.o [4] [0] [(0, [.d])] ?_;simp [hF, retK, covers, mpre, ht, hc, eHp]
 have hc : doP h d a b c = (h, -1, 0) := by rw [doP, if_neg (by omega)]
 have ht : tellP h d a b c = -1 := by rw [tellP, hc]; rfl
 refine fb Try.func31 Try.ntmps31 [.tmp 4] fun w0 I0 F0 hF => ?_
 repeat first|refine n1 ?_|refine n3 ?_|((first|refine rg 0 [0, 1] [0, 3] [] ?_|refine rg 1 [0, 3] [0, 3, 5] [] ?_|refine rg 2 [0, 3, 5] [0, 3, 5] [] ?_|refine rg 3 [0, 3, 5] [0, 3, 5, 11] [] ?_|refine rg 5 [0, 3, 5, 11] [0, 3, 5, 11, 12] [] ?_|refine rg 7 [0, 3, 5, 11] [0, 3, 5, 11, 21] [] ?_|refine rg 9 [0, 3, 5, 11] [0, 3, 5, 11, 31] [] ?_|refine rg 18 [0, 3, 5, 11] [0, 3, 5, 11, 55] [] ?_|refine rg 20 [0, 3, 5, 11] [0, 3, 5, 11, 62] [] ?_|refine rg 22 [0, 3, 5, 11] [0, 3, 5, 11, 69] [] ?_|refine rg 24 [0, 3, 5, 11] [0, 3, 5, 11, 80] [] ?_|refine rg 26 [0, 11] [0, 88] [] ?_|refine nc ?_);simp (maxSteps := 1000000) [hF, h0, h1, h2, h3, h4, h5, h6, h7])
 refine VS.widen [(0, [.d])] (by simp [covers, mpre]) ?_
 repeat first|(refine rg 4 [] [4] [] ?_;simp (maxSteps := 1000000) [hF])
 (try refine nr ?_);(repeat first|refine nb_ ?_|refine nl_ ?_);refine endK.o [4] [0] [(0, [.d])] ?_;simp [hF, retK, covers, mpre, hc, ht]
theorem u64_nonneg (x : Int) : 0 ≤ IntKind.u64.wrap x := by simp only [IntKind.wrap, IntKind.bits, IntKind.signed]; simp; omega
/-- A number that fits. -/
def fitN (x : Int) (n : Nat) : Nat := if n = 0 then 0 else ((IntKind.u64.wrap x).tmod n).toNat
theorem fitN_eq (x : Int) {n : Nat} (h : 0 < n) : (IntKind.u64.wrap x).tmod n = (fitN x n : Int) ∧ fitN x n < n := by
 have h1 : 0 ≤ (IntKind.u64.wrap x).tmod n := Int.tmod_nonneg _ (u64_nonneg x)
 have h2 : (IntKind.u64.wrap x).tmod n < n := Int.tmod_lt_of_pos _ (by omega)
 rw [fitN, if_neg (by omega)]
 omega
theorem fitN_lt (x : Int) {n : Nat} (h : 0 < n) : fitN x n < n := (fitN_eq x h).2

/- cabochon/cabochonlaw27.fit -/
theorem fit_ok (x : Int) (n : Nat) (h0 : 0 < n) (hn : n ≤ 1000000) : Meets Try.prog 94 [] (.cons (avInt x) (.cons (avInt n) .nil)) fun av X κ => av = avInt (fitN x n) ∧ X = [] ∧ κ = [] := by
 obtain ⟨h1, h2⟩ := fitN_eq x (n := n) (by omega)
 have hi : ¬ (n : Int) = 0 := by omega
 have h0' : ¬ n = 0 := by omega
 have w1 : IntKind.u64.wrap (n : Int) = n := by simp only [IntKind.wrap, IntKind.bits, IntKind.signed]; simp; omega
 have w2 : IntKind.i64.wrap (fitN x n : Int) = fitN x n := IntWalk.i64_in _ (by omega)
 refine fb Try.func94 Try.ntmps94 [.tmp 4] fun w0 I0 F0 hF => ?_
 repeat first|refine n1 ?_|((first|refine rg 0 [0, 1] [0, 1] [] ?_|refine rg 1 [0, 1] [4] [] ?_);simp (maxSteps := 1000000) [hF, hi, h0', w1, h1, w2])
 (try refine nr ?_);(repeat first|refine nb_ ?_|refine nl_ ?_);refine endK.o [4] [] [] ?_;simp [hF, retK, covers, mpre]

def roomY (n : Int) : Int := [(8 : Int), 12, 40, 100].getD (fitN n 4) 0
def roomO (n : Int) : Int := [(8 : Int), 9, 30, 100].getD (fitN ((IntKind.u64.wrap n).tdiv 4) 4) 0
theorem roomY_in (n : Int) : 8 ≤ roomY n ∧ roomY n ≤ 1000 := by
 have h := fitN_lt n (n := 4) (by omega)
 unfold roomY
 generalize fitN n 4 = k at *
 have : k = 0 ∨ k = 1 ∨ k = 2 ∨ k = 3 := by omega
 rcases this with rfl | rfl | rfl | rfl <;> simp
theorem roomO_in (n : Int) : 8 ≤ roomO n ∧ roomO n ≤ 1000 := by
 have h := fitN_lt ((IntKind.u64.wrap n).tdiv 4) (n := 4) (by omega)
 unfold roomO
 generalize fitN ((IntKind.u64.wrap n).tdiv 4) 4 = k at *
 have : k = 0 ∨ k = 1 ∨ k = 2 ∨ k = 3 := by omega
 rcases this with rfl | rfl | rfl | rfl <;> simp
/- cabochon/cabochonlaw27.rooms -/
theorem rooms_ok (n : Int) : Meets Try.prog 27 [] (.cons (avInt n) .nil) fun av X κ => av = two (roomY n, roomO n) ∧ X = [] ∧ κ = [] := by
 obtain ⟨h1, h2⟩ := fitN_eq n (n := 4) (by omega)
 have h1' : (IntKind.u64.wrap n).tmod 4 = (fitN n 4 : Int) := h1
 obtain ⟨h3, h4⟩ := fitN_eq ((IntKind.u64.wrap n).tdiv 4) (n := 4) (by omega)
 have h3' : (IntKind.u64.wrap ((IntKind.u64.wrap n).tdiv 4)).tmod 4 = (fitN ((IntKind.u64.wrap n).tdiv 4) 4 : Int) := h3
 have hv1 : ((.cons (.val (.int .i64 8)) (.cons (.val (.int .i64 12)) (.cons (.val (.int .i64 40)) (.cons (.val (.int .i64 100)) .nil)))) : D).nth (fitN n 4) = .val (.int .i64 (roomY n)) := by
  rw [roomY, List.getD_eq_getElem?_getD, List.getElem?_eq_getElem (by simpa using h2), Option.getD_some]
  exact dInts_nth (l := [8, 12, 40, 100]) (by simpa using h2)
 have hv2 : ((.cons (.val (.int .i64 8)) (.cons (.val (.int .i64 9)) (.cons (.val (.int .i64 30)) (.cons (.val (.int .i64 100)) .nil)))) : D).nth (fitN ((IntKind.u64.wrap n).tdiv 4) 4) = .val (.int .i64 (roomO n)) := by
  rw [roomO, List.getD_eq_getElem?_getD, List.getElem?_eq_getElem (by simpa using h4), Option.getD_some]
  exact dInts_nth (l := [8, 9, 30, 100]) (by simpa using h4)
 have i1 : (fitN n 4 : Int) < 4 := by omega
 have i2 : (fitN ((IntKind.u64.wrap n).tdiv 4) 4 : Int) < 4 := by omega
 refine fb Try.func27 Try.ntmps27 [.tmp 2, .tmp 3] fun w0 I0 F0 hF => ?_
 repeat first|refine n1 ?_|((first|refine rg 0 [0] [0] [] ?_|(refine dr 1 0 [0] [2, 3] [] [⟨0, 0, 16, 4⟩, ⟨0, 1, 32, 5⟩, ⟨2, 32, 64, 5⟩, ⟨4, 64, 128, 5⟩, ⟨9, 144, 256, 5⟩, ⟨16, 256, 512, 6⟩, ⟨0, 0, 1024, 4⟩, ⟨0, 1, 2048, 5⟩, ⟨128, 2048, 4096, 5⟩, ⟨256, 4096, 8192, 5⟩, ⟨512, 8192, 16384, 5⟩, ⟨1088, 17408, 32768, 5⟩, ⟨2048, 32768, 65536, 6⟩, ⟨63, 512, 4, 5⟩, ⟨16383, 65536, 8, 5⟩] (.take 1 (.take 2 (.take 3 (.take 7 (.take 8 (.take 9 (.take 10 (.fork (.alt 0 (.take 4 (.take 5 (.take 13 (.fork (.alt 6 (.take 11 (.take 12 (.take 14 (.done)))) (.nil)))))) (.alt 6 (.take 11 (.take 12 (.fork (.alt 0 (.take 4 (.take 5 (.take 13 (.take 14 (.done))))) (.nil))))) (.nil))))))))))) (.run [1, 2, 3, 7, 8, 9, 10] (.both (.run [0, 4, 5, 13, 6, 11, 12, 14] (.done)) (.run [6, 11, 12, 0, 4, 5, 13, 14] (.done)))) ?_;simp only [drs]));simp (maxSteps := 1000000) [hF, h1', h2, h3', h4, hv1, hv2, i1, i2])
 refine ⟨?_, ?_⟩
 all_goals (skip)
 all_goals ((try refine nr ?_);(repeat first|refine nb_ ?_|refine nl_ ?_);refine endK.o [2, 3] [] [] ?_;simp [hF, retK, covers, mpre])

def dLd (d : Hd) : D := .agg (.cons (.val (.int .i64 d.d)) (.cons (.val (.int .i64 d.a)) (.cons (.val (.int .i64 d.b)) (.cons (.val (.int .i64 d.c)) (.cons (.sl false () 1 (dInts d.l)) .nil)))))
def dLds (l : List Hd) : D := sq (l.map dLd)
def avLd (d : Hd) : AV := .agg (.cons (avInt d.d) (.cons (avInt d.a) (.cons (avInt d.b) (.cons (avInt d.c) (.cons (.imm 1 (dInts d.l) false) .nil)))))
@[simp] theorem dLds_len (l : List Hd) : (dLds l).len = l.length := by simp [dLds]
@[simp] theorem dLds_free (l : List Hd) : (dLds l).free = true := sq_free fun x hx => by obtain ⟨n, _, rfl⟩ := List.mem_map.1 hx; simp [dLd]
theorem dLds_nth {l : List Hd} {i : Nat} (h : i < l.length) : (dLds l).nth i = .agg (.cons (.val (.int .i64 l[i].d)) (.cons (.val (.int .i64 l[i].a)) (.cons (.val (.int .i64 l[i].b)) (.cons (.val (.int .i64 l[i].c)) (.cons (.sl false () 1 (dInts l[i].l)) .nil))))) := by
 rw [dLds, sq_nth_lt (by simpa using h)]; simp; rfl
end Go.Proofs.Ytfdcfjjobdnofaa

/- Two pairs are asked to be the same. -/
namespace Go.Proofs.Ytfdcfjjobdnofaa
set_option linter.all false
open Go.Vc Go.Proofs
set_option maxHeartbeats 4000000
set_option maxRecDepth 100000

theorem run_isAgg3 (w : World) : (isAgg 3).run Try.prog w = .ok false w := by simp [isAgg, run_underlying Try.underlying3]
theorem eqPr {op : BinOp} {a b c d : Int} {K : AV → Prop} (h : eqVc op (decide (a = b) && decide (c = d)) K) :
    EqK Try.prog 33 op (.cons (.val (.int .i64 a)) (.cons (.val (.int .i64 c)) .nil)) (.cons (.val (.int .i64 b)) (.cons (.val (.int .i64 d)) .nil)) K := by
  refine ⟨_, ⟨Try.eqGuardType33, fun h I F xs ys w h1 h2 => ?_⟩, h⟩
  obtain ⟨_, _, rfl, ⟨rfl, _⟩, _, _, rfl, ⟨rfl, _⟩, rfl⟩ := h1
  obtain ⟨_, _, rfl, ⟨rfl, _⟩, _, _, rfl, ⟨rfl, _⟩, rfl⟩ := h2
  have hr : List.range' 0 2 = [0, 1] := rfl
  have key : ∀ n, (Op.equalIn (n + 2) 33 (.agg #[.int .i64 a, .int .i64 c]) (.agg #[.int .i64 b, .int .i64 d])).run Try.prog w = .ok (decide (a = b) && decide (c = d)) w := fun n => by
    by_cases h1 : a = b <;> by_cases h2 : c = d <;> simp [Op.equalIn, run_underlying Try.underlying33, run_underlying Try.underlying3, part, hr, run_isAgg3, h1, h2]
  exact key 9998
end Go.Proofs.Ytfdcfjjobdnofaa

/- The law's own functions: a deed whose numbers fit; lists that are the same. -/
namespace Go.Proofs.Ytfdcfjjobdnofaa
set_option linter.all false
open Go.Vc Go.Proofs
set_option linter.unusedSimpArgs false
set_option linter.unusedVariables false
set_option maxRecDepth 100000
set_option maxHeartbeats 4000000
attribute [local irreducible] CallW EqK

def fitL (l : List Int) (n : Nat) : List Int := (l.map fun x => (fitN x n : Int)).filter fun x => decide (0 < x)
/-- A deed whose numbers fit. -/
def fitD (d : Hd) (n : Nat) : Hd :=
 if d.d = 8 then ⟨0, 1 + fitN d.a 3, 0, 0, []⟩ else if d.d = 9 then ⟨1, fitN d.a n, fitN d.b 2, fitN d.c n, []⟩
 else if d.d = 10 then ⟨2, 0, 0, 0, fitL (d.l.take 4) n⟩ else if d.d = 11 then ⟨6, fitN d.a n, d.b, 0, []⟩ else d
/- cabochon/cabochonlaw27.fitted -/
theorem fitted_ok (d : Hd) (n : Nat) (hn0 : 0 < n) (hn : n ≤ 100000) : Meets Try.prog 72 [] (.cons (avLd d) (.cons (avInt n) .nil))
  fun av X κ => av = avLd (fitD d n) ∧ X = [.box true () (dLd (fitD d n))] ∧ κ = [] := by
 unfold avLd
 by_cases h8 : d.d = 8
 ·have hc : fitD d n = ⟨0, 1 + fitN d.a 3, 0, 0, []⟩ := by rw [fitD, if_pos h8]
  obtain ⟨h1, h2⟩ := fitN_eq d.a (n := 3) (by omega)
  have h1' : (IntKind.u64.wrap d.a).tmod 3 = (fitN d.a 3 : Int) := h1
  have w2 : IntKind.i64.wrap (fitN d.a 3 : Int) = fitN d.a 3 := IntWalk.i64_in _ (by omega)
  have w3 : IntKind.i64.wrap (1 + (fitN d.a 3 : Int)) = 1 + fitN d.a 3 := IntWalk.i64_in _ (by omega)
  refine fb Try.func72 Try.ntmps72 [.cell 4 47] fun w0 I0 F0 hF => ?_
  repeat first|refine n1 ?_|refine n3 ?_|((first|refine rg 0 [0, 1] [1, 2, 4] [] ?_|refine rg 1 [1, 2, 4] [1, 2, 4, 9] [] ?_|refine rg 2 [1, 2, 4, 9] [1, 2, 4, 9, 10] [] ?_|refine rg 3 [2, 4] [4] [] ?_|refine nc ?_);simp (maxSteps := 1000000) [hF, h8, h1', w2, w3])
  refine VS.cold 1 [.d, .f 4] (by simp (maxSteps := 1000000) [hF, T.freeze]) (by simp (maxSteps := 1000000) [hF, T.freeze]) (by simp (maxSteps := 1000000) [hF, T.freeze]) ?_;simp [hF, St.cold, T.freeze]
  (try refine nr ?_);(repeat first|refine nb_ ?_|refine nl_ ?_);refine endK.o [4] [1] [] ?_;simp [hF, retK, covers, mpre, hc, dLd]
 by_cases h9 : d.d = 9
 ·have hc : fitD d n = ⟨1, fitN d.a n, fitN d.b 2, fitN d.c n, []⟩ := by rw [fitD, if_neg h8, if_pos h9]
  obtain ⟨h1, h2⟩ := fitN_eq d.b (n := 2) (by omega)
  have h1' : (IntKind.u64.wrap d.b).tmod 2 = (fitN d.b 2 : Int) := h1
  have w2 : IntKind.i64.wrap (fitN d.b 2 : Int) = fitN d.b 2 := IntWalk.i64_in _ (by omega)
  refine fb Try.func72 Try.ntmps72 [.cell 4 47] fun w0 I0 F0 hF => ?_
  repeat first|refine n1 ?_|refine n3 ?_|((first|refine rg 0 [0, 1] [1, 2, 4] [] ?_|refine rg 1 [1, 2, 4] [1, 2, 4, 9] [] ?_|refine rg 2 [1, 2, 4, 9] [1, 2, 4, 9, 10] [] ?_|refine rg 4 [1, 2, 4, 9] [1, 2, 4, 9, 19] [] ?_|(refine dr 5 4104 [1, 2, 4] [4] [] [⟨0, 4, 2097152, 5⟩, ⟨1, 2097152, 4194304, 6⟩, ⟨0, 2, 8388608, 5⟩, ⟨6, 12582912, 16777216, 0⟩, ⟨0, 4, 33554432, 5⟩, ⟨16, 33554432, 67108864, 6⟩, ⟨32, 67108864, 134217728, 5⟩, ⟨64, 134217728, 268435456, 5⟩, ⟨128, 268435456, 536870912, 5⟩, ⟨0, 4, 1073741824, 5⟩, ⟨512, 1073741824, 2147483648, 6⟩, ⟨0, 2, 4294967296, 5⟩, ⟨3080, 6442450944, 8589934592, 0⟩, ⟨4360, 9143582720, 17179869184, 5⟩, ⟨16383, 17179869200, 0, 0⟩] (.take 0 (.take 1 (.take 2 (.take 4 (.take 5 (.take 6 (.take 7 (.take 8 (.take 9 (.take 10 (.take 11 (.fork (.alt 3 (.fork (.alt 12 (.take 13 (.fork (.alt 14 (.done) (.nil)))) (.nil))) (.nil)))))))))))))) (.run [0, 1, 2, 4, 5, 6, 7, 8, 9, 10, 11] (.chk 3 (.run [3] (.chk 12 (.run [12, 13, 14] (.done)))))) ?_;simp only [drs])|refine nc ?_);simp (maxSteps := 1000000) [hF, h8, h9])
  (repeat' with_reducible refine And.intro ?_ ?_)
  all_goals (refine (fit_ok d.a n hn0 (by omega)).go [] (by simp (maxSteps := 1000000) [hF, h1', w2]) ?_;rintro av X κ ⟨rfl, rfl, rfl⟩;simp (maxSteps := 1000000) [hF, h1', w2])
  (repeat' with_reducible refine And.intro ?_ ?_)
  all_goals (refine (fit_ok d.c n hn0 (by omega)).go [] (by simp (maxSteps := 1000000) [hF, h1', w2]) ?_;rintro av X κ ⟨rfl, rfl, rfl⟩;simp (maxSteps := 1000000) [hF, h1', w2])
  all_goals (refine VS.cold 1 [.d, .f 4] (by simp (maxSteps := 1000000) [hF, T.freeze]) (by simp (maxSteps := 1000000) [hF, T.freeze]) (by simp (maxSteps := 1000000) [hF, T.freeze]) ?_;simp [hF, St.cold, T.freeze])
  all_goals ((try refine nr ?_);(repeat first|refine nb_ ?_|refine nl_ ?_);refine endK.o [4] [1] [] ?_;simp [hF, retK, covers, mpre, hc, dLd])
 by_cases h10 : d.d = 10
 ·have hc : fitD d n = ⟨2, 0, 0, 0, fitL (d.l.take 4) n⟩ := by rw [fitD, if_neg h8, if_neg h9, if_pos h10]
  refine fb Try.func72 Try.ntmps72 [.cell 4 47] fun w0 I0 F0 hF => ?_
  repeat first|refine n1 ?_|refine n3 ?_|((first|refine rg 0 [0, 1] [1, 2, 4] [] ?_|refine rg 1 [1, 2, 4] [1, 2, 4, 9] [] ?_|refine rg 2 [1, 2, 4, 9] [1, 2, 4, 9, 10] [] ?_|refine rg 4 [1, 2, 4, 9] [1, 2, 4, 9, 19] [] ?_|refine rg 6 [1, 2, 4, 9] [1, 2, 4, 9, 35] [] ?_|refine rg 7 [1, 2, 4] [1, 2, 4, 5] [] ?_|refine nc ?_);simp (maxSteps := 1000000) [hF, h8, h9, h10])
  refine VS.hold0 5 1 (by simp) ?_
  repeat first|refine n3 ?_|(refine rg 8 [1, 2, 4, 5] [1, 2, 4, 5, 6] [] ?_;simp (maxSteps := 1000000) [hF])
  refine VS.rounds (fun m st => ∃ (i : Nat) (P : List Int), i + m = (d.l.take 4).length ∧ P = fitL ((d.l.take 4).take i) n ∧ st = ⟨[(1, avInt n), (2, .ptr 0 [.d]), (4, .ptr 1 [.d]), (5, .sub 2 [] 0 P.length false), (6, avInt i)],
   [.box true () (.agg (.cons (.val (.int .i64 10)) (.cons (.val (.int .i64 d.a)) (.cons (.val (.int .i64 d.b)) (.cons (.val (.int .i64 d.c)) (.cons (.sl false () 1 (dInts d.l)) .nil)))))),
    .box true () (.agg (.cons (.val (.int .i64 0)) (.cons (.val (.int .i64 0)) (.cons (.val (.int .i64 0)) (.cons (.val (.int .i64 0)) (.cons (.sl true () 1 .nil) .nil)))))), .sl true () 1 (dInts P)], [], []⟩) ⟨(d.l.take 4).length, 0, [], by omega, by simp [fitL], by simp⟩ ?_
  rintro m st ⟨i, P, hi, hP, rfl⟩
  have hPl : P.length ≤ 4 := by
   rw [hP]
   refine Nat.le_trans (List.length_filter_le _ _) ?_
   rw [List.length_map, List.length_take, List.length_take]; omega
  have hw : IntKind.i64.wrap ((i : Int) + 1) = (i + 1 : Nat) := by rw [IntWalk.i64_in _ (by rw [List.length_take] at hi; omega)]; rfl
  by_cases hlt : i < d.l.length ∧ i < 4
  ·obtain ⟨hlt, h4⟩ := hlt
   have h4i : (i : Int) < 4 := by omega
   have hn1 := dInts_nth hlt
   have htk : i < (d.l.take 4).length := by rw [List.length_take]; omega
   have hat : (d.l.take 4)[i] = d.l[i] := by simp
   have c1 : (P.length + 1) * 8 ≤ 140737488355328 := by omega
   have c2 : P.length ≤ 9223372036854775806 := by omega
   have hm1 : (dInts (P ++ [(fitN d.l[i] n : Int)])).mid 0 (P.length + 1) = dInts (P ++ [(fitN d.l[i] n : Int)]) := sq_mid_all _ _ (by simp)
   have hst : fitL ((d.l.take 4).take (i + 1)) n = if 0 < fitN d.l[i] n then P ++ [(fitN d.l[i] n : Int)] else P := by
    rw [take_succ_at htk, fitL, List.map_append, List.filter_append, hat]
    show fitL ((d.l.take 4).take i) n ++ _ = _
    rw [← hP]
    by_cases hz : 0 < fitN d.l[i] n
    ·rw [if_pos hz, List.map_singleton, List.filter_cons_of_pos (by simpa using hz)]; rfl
    ·rw [if_neg hz, List.map_singleton, List.filter_cons_of_neg (by simpa using hz)]; simp
   repeat first|refine n1 ?_|refine n2 ?_|refine n3 ?_|((first|refine rg 9 [1, 2, 4, 5, 6] [1, 2, 4, 5, 6, 45] [(5, 42)] ?_|refine rg 11 [1, 2, 4, 5, 6] [1, 2, 4, 5, 6, 7] [] ?_|refine nc ?_);simp (maxSteps := 1000000) [hF, hlt, h4i, hn1])
   by_cases hz : 0 < fitN d.l[i] n
   ·rw [if_pos hz] at hst
    refine (fit_ok d.l[i] n hn0 (by omega)).go [] (by simp (maxSteps := 1000000) [hF]) ?_;rintro av X κ ⟨rfl, rfl, rfl⟩;simp (maxSteps := 1000000) [hF]
    repeat first|refine n1 ?_|refine n4 ?_|refine n5 ?_|refine n6 ?_|((first|refine rg 10 [1, 2, 4, 5, 6] [1, 2, 4, 5, 6] [] ?_|refine rg 12 [1, 2, 4, 5, 6, 7] [1, 2, 4, 5, 6, 7, 56] [] ?_|refine rg 13 [1, 2, 4, 5, 6, 7] [1, 2, 4, 5, 6] [] ?_|refine nc ?_);simp (maxSteps := 1000000) [hF, hz, c1, c2, hm1, hw])
    refine nextK.of [1, 2, 4, 5, 6] [0, 1, 2] (m - 1) (by omega) (by simp [hF]) ?_
    exact ⟨i + 1, _, by omega, hst.symm, by simp⟩
   ·rw [if_neg hz] at hst
    refine (fit_ok d.l[i] n hn0 (by omega)).go [] (by simp (maxSteps := 1000000) [hF]) ?_;rintro av X κ ⟨rfl, rfl, rfl⟩;simp (maxSteps := 1000000) [hF]
    repeat first|refine n1 ?_|refine n2 ?_|refine n4 ?_|refine n5 ?_|refine n6 ?_|((first|refine rg 10 [1, 2, 4, 5, 6] [1, 2, 4, 5, 6] [] ?_|refine rg 12 [1, 2, 4, 5, 6, 7] [1, 2, 4, 5, 6, 7, 56] [] ?_|refine nc ?_);simp (maxSteps := 1000000) [hF, hz, hw])
    refine nextK.of [1, 2, 4, 5, 6] [0, 1, 2] (m - 1) (by omega) (by simp [hF]) ?_
    exact ⟨i + 1, P, by omega, hst.symm, by simp⟩
  ·have hfin : P = fitL (d.l.take 4) n := by
    rw [hP, List.take_of_length_le (by rw [List.length_take]; omega)]
   have hm := dInts_mid P
   apply merged
   ·intro key
    by_cases hlt2 : i < d.l.length
    ·have h4i : ¬ (i : Int) < 4 := by omega
     repeat first|refine n1 ?_|refine n7 ?_|((first|refine rg 9 [1, 2, 4, 5, 6] [1, 2, 4, 5, 6, 45] [(5, 42)] ?_|refine nc ?_);simp (maxSteps := 1000000) [hF, hlt2, h4i])
     refine VS.pick [4, 5] [0, 1, 2] (by simp [hF]) ?_;simp [hF]
     exact key ()
    ·repeat first|refine n1 ?_|refine n7 ?_|((first|refine rg 9 [1, 2, 4, 5, 6] [1, 2, 4, 5, 6, 45] [(5, 42)] ?_|refine nc ?_);simp (maxSteps := 1000000) [hF, hlt2])
     refine VS.pick [4, 5] [0, 1, 2] (by simp [hF]) ?_;simp [hF]
     exact key ()
   repeat first|(refine rg 14 [4, 5] [4] [] ?_;simp (maxSteps := 1000000) [hF, hm])
   refine VS.cold 1 [.d, .f 4] (by simp (maxSteps := 1000000) [hF, T.freeze]) (by simp (maxSteps := 1000000) [hF, T.freeze]) (by simp (maxSteps := 1000000) [hF, T.freeze]) ?_;simp [hF, St.cold, T.freeze]
   (try refine nr ?_);(repeat first|refine nb_ ?_|refine nl_ ?_);refine endK.o [4] [1] [] ?_;simp [hF, retK, covers, mpre, hc, dLd, hfin]
 by_cases h11 : d.d = 11
 ·have hc : fitD d n = ⟨6, fitN d.a n, d.b, 0, []⟩ := by rw [fitD, if_neg h8, if_neg h9, if_neg h10, if_pos h11]
  refine fb Try.func72 Try.ntmps72 [.cell 4 47] fun w0 I0 F0 hF => ?_
  repeat first|refine n1 ?_|refine n3 ?_|((first|refine rg 0 [0, 1] [1, 2, 4] [] ?_|refine rg 1 [1, 2, 4] [1, 2, 4, 9] [] ?_|refine rg 2 [1, 2, 4, 9] [1, 2, 4, 9, 10] [] ?_|refine rg 4 [1, 2, 4, 9] [1, 2, 4, 9, 19] [] ?_|refine rg 6 [1, 2, 4, 9] [1, 2, 4, 9, 35] [] ?_|refine rg 15 [1, 2, 4, 9] [1, 2, 4, 63] [] ?_|(refine dr 16 8 [1, 2, 4] [4] [] [⟨0, 4, 36893488147419103232, 5⟩, ⟨1, 36893488147419103232, 73786976294838206464, 6⟩, ⟨0, 2, 147573952589676412928, 5⟩, ⟨6, 221360928884514619392, 295147905179352825856, 0⟩, ⟨0, 4, 590295810358705651712, 5⟩, ⟨16, 590295810358705651712, 1180591620717411303424, 6⟩, ⟨40, 1475739525896764129280, 2361183241434822606848, 5⟩, ⟨127, 2361183241434822606864, 0, 0⟩] (.take 0 (.take 1 (.take 2 (.take 4 (.take 5 (.fork (.alt 3 (.take 6 (.fork (.alt 7 (.done) (.nil)))) (.nil)))))))) (.run [0, 1, 2, 4, 5] (.chk 3 (.run [3, 6, 7] (.done)))) ?_;simp only [drs])|refine nc ?_);simp (maxSteps := 1000000) [hF, h8, h9, h10, h11])
  (repeat' with_reducible refine And.intro ?_ ?_)
  all_goals (refine (fit_ok d.a n hn0 (by omega)).go [] (by simp (maxSteps := 1000000) [hF]) ?_;rintro av X κ ⟨rfl, rfl, rfl⟩;simp (maxSteps := 1000000) [hF])
  all_goals (refine VS.cold 1 [.d, .f 4] (by simp (maxSteps := 1000000) [hF, T.freeze]) (by simp (maxSteps := 1000000) [hF, T.freeze]) (by simp (maxSteps := 1000000) [hF, T.freeze]) ?_;simp [hF, St.cold, T.freeze])
  all_goals ((try refine nr ?_);(repeat first|refine nb_ ?_|refine nl_ ?_);refine endK.o [4] [1] [] ?_;simp [hF, retK, covers, mpre, hc, dLd])
 have hc : fitD d n = d := by rw [fitD, if_neg h8, if_neg h9, if_neg h10, if_neg h11]
 refine fb Try.func72 Try.ntmps72 [.cell 4 47] fun w0 I0 F0 hF => ?_
 repeat first|refine n1 ?_|refine n2 ?_|refine n3 ?_|refine n4 ?_|((first|refine rg 0 [0, 1] [1, 2, 4] [] ?_|refine rg 1 [1, 2, 4] [1, 2, 4, 9] [] ?_|refine rg 2 [1, 2, 4, 9] [1, 2, 4, 9, 10] [] ?_|refine rg 4 [1, 2, 4, 9] [1, 2, 4, 9, 19] [] ?_|refine rg 6 [1, 2, 4, 9] [1, 2, 4, 9, 35] [] ?_|refine rg 15 [1, 2, 4, 9] [1, 2, 4, 63] [] ?_|refine rg 17 [2, 4] [4] [] ?_|refine nc ?_);simp (maxSteps := 1000000) [hF, h8, h9, h10, h11])
 (try refine nr ?_);(repeat first|refine nb_ ?_|refine nl_ ?_);refine endK.o [4] [1] [] ?_;simp [hF, retK, covers, mpre, hc, dLd]
/- cabochon/cabochonlaw27.ints -/
theorem ints_ok (l : List Int) (ex ex2 : Bool) (hl : l.length ≤ 100000) : Meets Try.prog 24 [] (.cons (.imm 1 (dInts l) ex) (.cons (.imm 1 (dInts l) ex2) .nil)) fun av X κ => av = avBool true ∧ X = [] ∧ κ = [] := by
 refine fb Try.func24 Try.ntmps24 [.tmp 4] fun w0 I0 F0 hF => ?_
 repeat first|refine n1 ?_|refine n2 ?_|refine n3 ?_|((first|refine rg 0 [0, 1] [0, 1] [] ?_|refine rg 1 [0, 1] [0, 1, 10] [] ?_|refine rg 3 [0, 1] [0, 1, 5] [] ?_|refine nc ?_);simp (maxSteps := 1000000) [hF])
 refine VS.rounds (fun m st => ∃ (i : Nat), i + m = l.length ∧ st = ⟨[(0, .imm 1 (dInts l) ex), (1, .imm 1 (dInts l) ex2), (5, avInt i)], [], [], []⟩) ⟨l.length, 0, by omega, by simp⟩ ?_
 rintro m st ⟨i, hi, rfl⟩
 repeat first|refine n1 ?_|((first|refine rg 4 [0, 1, 5] [0, 1, 5, 14] [] ?_|refine nc ?_);simp (maxSteps := 1000000) [hF])
 refine ⟨fun hlt => ?_, fun hge => ?_⟩
 ·have hn := dInts_nth hlt
  have hw : IntKind.i64.wrap ((i : Int) + 1) = (i + 1 : Nat) := by rw [IntWalk.i64_in _ (by omega)]; rfl
  repeat first|refine n1 ?_|refine n2 ?_|refine n3 ?_|refine n4 ?_|refine n5 ?_|refine n6 ?_|((first|refine rg 5 [0, 1, 5] [0, 1, 5] [] ?_|(refine dr 6 0 [0, 1, 5] [0, 1, 5, 25] [] [⟨0, 1, 131072, 5⟩, ⟨0, 32, 262144, 5⟩, ⟨3, 393216, 524288, 5⟩, ⟨4, 524288, 1048576, 6⟩, ⟨0, 2, 2097152, 5⟩, ⟨0, 32, 4194304, 5⟩, ⟨48, 6291456, 8388608, 5⟩, ⟨64, 8388608, 16777216, 6⟩, ⟨136, 17825792, 33554432, 5⟩] (.take 0 (.take 1 (.take 2 (.take 3 (.take 4 (.take 5 (.take 6 (.take 7 (.take 8 (.done)))))))))) (.run [0, 1, 2, 3, 4, 5, 6, 7, 8] (.done)) ?_;simp only [drs])|refine nc ?_);simp (maxSteps := 1000000) [hF, hn, hlt, hw])
  refine nextK.of [0, 1, 5] [] (m - 1) (by omega) (by simp [hF]) ?_
  exact ⟨i + 1, by omega, by simp⟩
 ·repeat first|refine n1 ?_|refine n7 ?_|(refine rg 8 [] [4] [] ?_;simp (maxSteps := 1000000) [hF])
  (try refine nr ?_);(repeat first|refine nb_ ?_|refine nl_ ?_);refine endK.o [4] [] [] ?_;simp [hF, retK, covers, mpre]
/- cabochon/cabochonlaw27.pairs -/
theorem pairs_ok (l : List (Int × Int)) (ex ex2 : Bool) (hl : l.length ≤ 1000000) : Meets Try.prog 58 [] (.cons (.imm 2 (dEns l) ex) (.cons (.imm 2 (dEns l) ex2) .nil)) fun av X κ => av = avBool true ∧ X = [] ∧ κ = [] := by
 refine fb Try.func58 Try.ntmps58 [.tmp 4] fun w0 I0 F0 hF => ?_
 repeat first|refine n1 ?_|refine n2 ?_|refine n3 ?_|((first|refine rg 0 [0, 1] [0, 1] [] ?_|refine rg 1 [0, 1] [0, 1, 10] [] ?_|refine rg 3 [0, 1] [0, 1, 5] [] ?_|refine nc ?_);simp (maxSteps := 1000000) [hF])
 refine VS.rounds (fun m st => ∃ (i : Nat), i + m = l.length ∧ st = ⟨[(0, .imm 2 (dEns l) ex), (1, .imm 2 (dEns l) ex2), (5, avInt i)], [], [], []⟩) ⟨l.length, 0, by omega, by simp⟩ ?_
 rintro m st ⟨i, hi, rfl⟩
 repeat first|refine n1 ?_|((first|refine rg 4 [0, 1, 5] [0, 1, 5, 14] [] ?_|refine nc ?_);simp (maxSteps := 1000000) [hF])
 refine ⟨fun hlt => ?_, fun hge => ?_⟩
 ·have hn := dEns_nth hlt
  have hw : IntKind.i64.wrap ((i : Int) + 1) = (i + 1 : Nat) := by rw [IntWalk.i64_in _ (by omega)]; rfl
  repeat first|refine n1 ?_|refine n2 ?_|refine n3 ?_|((refine dr 6 0 [0, 1, 5] [0, 1, 5, 25] [] [⟨0, 1, 131072, 5⟩, ⟨0, 32, 262144, 5⟩, ⟨3, 393216, 524288, 5⟩, ⟨4, 524288, 1048576, 6⟩, ⟨0, 2, 2097152, 5⟩, ⟨0, 32, 4194304, 5⟩, ⟨48, 6291456, 8388608, 5⟩, ⟨64, 8388608, 16777216, 6⟩, ⟨136, 17825792, 33554432, 5⟩] (.take 0 (.take 1 (.take 2 (.take 3 (.take 4 (.take 5 (.take 6 (.take 7 (.take 8 (.done)))))))))) (.run [0, 1, 2, 3, 4, 5, 6, 7, 8] (.done)) ?_;simp only [drs]);simp (maxSteps := 1000000) [hF, hn, hlt, hw])
  refine eqPr ?_
  simp (maxSteps := 1000000) [hF]
  repeat first|refine n2 ?_|refine n4 ?_|refine n5 ?_|refine n6 ?_|((first|refine rg 5 [0, 1, 5] [0, 1, 5] [] ?_|refine nc ?_);simp (maxSteps := 1000000) [hF, hw])
  refine nextK.of [0, 1, 5] [] (m - 1) (by omega) (by simp [hF]) ?_
  exact ⟨i + 1, by omega, by simp⟩
 ·repeat first|refine n1 ?_|refine n7 ?_|(refine rg 8 [] [4] [] ?_;simp (maxSteps := 1000000) [hF])
  (try refine nr ?_);(repeat first|refine nb_ ?_|refine nl_ ?_);refine endK.o [4] [] [] ?_;simp [hF, retK, covers, mpre]
end Go.Proofs.Ytfdcfjjobdnofaa

/- Plain parts of the laws: what is kept, cells in use, finals of deeds. -/
namespace Go.Proofs.Ytfdcfjjobdnofaa
set_option linter.all false
open Go.Vc Go.Proofs

theorem slot_there {h : Hp} (k : Ok h) {x : Int} (hx : there h x = true) {s : Nat} (hs : s < 8) : slotErr h x s 0 = if s < (slotsOf h x).length then 0 else 1 := by
  obtain ⟨o, ho, rfl⟩ := there_obj hx
  have h1 := (k.small o ho).1
  have hl := slots8 k o.handle
  unfold slotErr
  by_cases h2 : s < (slotsOf h o.handle).length
  · rw [if_neg (by omega), if_neg (by omega), if_neg (by simp [hx]), if_pos h2]
  · rw [if_neg (by omega), if_pos ⟨hx, by omega⟩, if_neg h2]
theorem get_there {h : Hp} (k : Ok h) {x : Int} (hx : there h x = true) {s : Nat} (hs : s < 8) : getOf h x s = if s < (slotsOf h x).length then ((slotsOf h x).getD s 0, 0) else (0, 1) := by
  unfold getOf
  rw [slot_there k hx hs]
  by_cases h2 : s < (slotsOf h x).length
  · rw [if_pos h2, if_neg (by omega), if_pos h2]; simp
  · rw [if_neg h2, if_pos (by omega), if_neg h2]

/-- What the roots reach stays, and its slots. -/
structure Kept (h g : Hp) : Prop where
  live : liveOf g = liveOf h
  slots : ∀ x ∈ liveOf h, there g x = true ∧ slotsOf g x = slotsOf h x
theorem Kept.refl {h : Hp} (k : Ok h) : Kept h h := ⟨rfl, fun x hx => ⟨(liveOf_in k hx).there, rfl⟩⟩
theorem Kept.step {h g : Hp} (t : Kept h g) (k : Ok g) (minor : Bool) : Kept h (collectE g minor).1 := by
  have v := lv_E k minor
  refine ⟨by rw [live_collect k, t.live], fun x hx => ?_⟩
  have hr : RR g x := liveOf_in k (by rw [t.live]; exact hx)
  have ht : there (collectE g minor).1 x = true := by rw [collectE, there_stays k minor _ _ x]; exact RR_stays k v hr
  refine ⟨ht, ?_⟩
  have := kept_slots k v (x := x) (by rw [collectE] at ht; exact ht)
  rw [collectE, this]
  exact (t.slots x hx).2

/-- The cells of all. -/
theorem slots_obs {h : Hp} (k : Ok h) {o : Ob} (ho : o ∈ obs h) : slotsOf h o.handle = o.slots := slotsL_mem k.dist ho
theorem cells_sum {h : Hp} (k : Ok h) : ((allOf h).map fun x => (slotsOf h x).length).sum = usedN h.young + usedN h.old := by
  have h1 : ((allOf h).map fun x => (slotsOf h x).length).Perm (((obs h).map (·.handle)).map fun x => (slotsOf h x).length) := (List.mergeSort_perm _ leI).map _
  rw [h1.sum_nat, List.map_map, ← usedN_obs, usedN]
  congr 1
  exact List.map_congr_left fun o ho => by simp [slots_obs k ho]

/-! ### Finals of deeds -/
def isFin (d : Hd) : Bool := decide (d.d = 6) || decide (d.d = 11)
theorem fins_do {h : Hp} {d : Hd} {t : Int} (ht : t ∈ ((doE h d).1.fins.map (·.2)) ++ (doE h d).1.queue) : t ∈ (h.fins.map (·.2)) ++ h.queue ∨ (d.d = 6 ∧ d.b = t) := by
  have hc : ∀ minor, t ∈ ((collectE h minor).1.fins.map (·.2)) ++ (collectE h minor).1.queue → t ∈ (h.fins.map (·.2)) ++ h.queue := by
    intro minor ht
    simp only [collectE, collectBy, List.mem_append, List.mem_map, List.mem_filter] at ht ⊢
    rcases ht with ⟨f, ⟨hf, _⟩, rfl⟩ | ht | ⟨f, ⟨hf, _⟩, rfl⟩
    · exact .inl ⟨f, hf, rfl⟩
    · exact .inr ht
    · exact .inl ⟨f, hf, rfl⟩
  rw [doE] at ht
  repeat' split at ht
  · left; rw [makeOf] at ht; repeat' split at ht
    all_goals exact ht
  · left; rw [setOf] at ht; split at ht
    · exact ht
    · rw [updO] at ht; split at ht <;> exact ht
  · left; rw [rootsOf] at ht; repeat' split at ht
    all_goals exact ht
  · exact .inl (hc _ ht)
  · exact .inl (hc _ ht)
  · left; rw [weakOf] at ht; split at ht <;> exact ht
  · rename_i h6
    rw [finalOf] at ht; split at ht
    · exact .inl ht
    · simp only [List.map_append, List.map_cons, List.map_nil, List.mem_append, List.mem_cons, List.not_mem_nil, or_false] at ht
      rcases ht with (ht | ht) | ht
      · left; simp [ht]
      · exact .inr ⟨h6, ht.symm⟩
      · left; simp [ht]
  · left; rw [takeOf] at ht; split at ht
    · exact ht
    · rename_i hq
      simp only [List.mem_append] at ht ⊢
      rcases ht with ht | ht
      · exact .inl ht
      · right; rw [hq]; simp [ht]
  · exact .inl ht

theorem Fit.withQ {n : Nat} {h : Hp} (f : Fit n h) {q : List Int} (hq : q.length ≤ h.queue.length) : Fit n { h with queue := q } := by
  obtain ⟨⟨k, h1, h2, h3⟩, h4⟩ := f
  exact ⟨⟨⟨k.rooms, k.dist, k.small, k.next, k.roots, k.usedY, k.usedO, k.fins, k.weak⟩, h1, h2, by simp only []; omega⟩, h4⟩
theorem fit_mono {n m : Nat} {h : Hp} (f : Fit n h) (hm : n ≤ m) : Fit m h := by
  obtain ⟨j, rfl⟩ : ∃ j, m = n + j := ⟨m - n, by omega⟩
  clear hm
  induction j with
  | zero => exact f
  | succ j ih => exact ih.up
theorem nodup_len : ∀ {l m : List Int}, l.Nodup → (∀ x ∈ l, x ∈ m) → l.length ≤ m.length
  | [], _, _, _ => Nat.zero_le _
  | a :: l, m, hn, hm => by
    rw [List.nodup_cons] at hn
    have ha : a ∈ m := hm a (by simp)
    have := nodup_len (l := l) (m := m.erase a) hn.2 fun x hx => (List.mem_erase_of_ne (fun e : x = a => hn.1 (e ▸ hx))).2 (hm x (by simp [hx]))
    rw [List.length_erase_of_mem ha] at this
    have := List.length_pos_of_mem ha
    rw [List.length_cons]; omega
theorem all_next {n : Nat} {h : Hp} (f : Fit n h) : (allOf h).length ≤ n := by
  have hx : ∀ x ∈ allOf h, x ∈ (List.range n).map fun i : Nat => ((i : Int) + 1) := fun x hx => by
    obtain ⟨o, ho, rfl⟩ := there_obj (allOf_mem.1 hx)
    have h1 := f.fine.ok.small o ho
    have h2 := f.fine.next
    exact List.mem_map.2 ⟨(o.handle - 1).toNat, List.mem_range.2 (by omega), by omega⟩
  have := nodup_len (allOf_nodup f.fine.ok) hx
  simpa using this
end Go.Proofs.Ytfdcfjjobdnofaa

/- The law's own functions: what both tell of an object, of all. -/
namespace Go.Proofs.Ytfdcfjjobdnofaa
set_option linter.all false
open Go.Vc Go.Proofs
set_option linter.unusedSimpArgs false
set_option linter.unusedVariables false
set_option maxRecDepth 100000
set_option maxHeartbeats 4000000
attribute [local irreducible] CallW EqK

theorem place_c (h : Hp) (k : Ok h) (x : Int) : Meets Try.prog 14 [dHp h] (.cons (.ptr 0 [.d]) (.cons (avInt x) .nil)) fun av X κ => av = avPl (placeOf h x) ∧ X = [dHp h] ∧ κ = [] :=
 warmH (place_ok h k x) rfl rfl (by simp) rfl
theorem hused_c (h : Hp) (k : Ok h) : Meets Try.prog 25 [dHp h] (.cons (.ptr 0 [.d]) .nil) fun av X κ => av = two ((usedN h.young : Int), (usedN h.old : Int)) ∧ X = [dHp h] ∧ κ = [] :=
 warmH (hused_ok h k) rfl rfl (by simp) rfl
theorem all_c (h : Hp) (k : Ok h) : Meets Try.prog 17 [dHp h] (.cons (.ptr 0 [.d]) .nil) fun av X κ => av = .sub 1 [] 0 (allOf h).length false ∧ X = [dHp h, .sl true () 1 (dInts (allOf h))] ∧ κ = [] :=
 warmH (all_ok h k) rfl rfl (by simp [T.allOwn]) rfl
theorem live_c (h : Hp) (k : Ok h) : Meets Try.prog 19 [dHp h] (.cons (.ptr 0 [.d]) .nil) fun av X κ => av = .sub 1 [] 0 (liveOf h).length false ∧ X = [dHp h, .sl true () 1 (dInts (liveOf h))] ∧ κ = [] :=
 warmH (live_ok h k) rfl rfl (by simp [T.allOwn]) rfl
theorem weaks_c (h : Hp) (k : Ok h) (hwl : h.weak.length ≤ 1000000) : Meets Try.prog 11 [dHp h] (.cons (.ptr 0 [.d]) .nil) fun av X κ => av = .sub 1 [] 0 h.weak.length false ∧ X = [dHp h, .sl true () 2 (dEns h.weak)] ∧ κ = [] :=
 warmH (weaks_ok h k hwl) rfl rfl (by simp [T.allOwn]) rfl
theorem ints_c (l : List Int) (ex ex2 : Bool) (hl : l.length ≤ 100000) : Meets Try.prog 24 [.sl true () 1 (dInts l), .sl true () 1 (dInts l)] (.cons (.sub 0 [] 0 l.length ex) (.cons (.sub 1 [] 0 l.length ex2) .nil))
  fun av X κ => av = avBool true ∧ X = [.sl true () 1 (dInts l), .sl true () 1 (dInts l)] ∧ κ = [] :=
 warmL (t0 := .cons (.imm 1 (dInts l) ex) (.cons (.sub 0 [] 0 l.length ex2) .nil)) (warmL (ints_ok l ex ex2 hl) (by simp [AV.chilled]) rfl (by simp) rfl) (by simp [AV.chilled]) rfl (by simp [T.allOwn]) rfl
theorem pairs_c (l : List (Int × Int)) (ex ex2 : Bool) (hl : l.length ≤ 1000000) : Meets Try.prog 58 [.sl true () 2 (dEns l), .sl true () 2 (dEns l)] (.cons (.sub 0 [] 0 l.length ex) (.cons (.sub 1 [] 0 l.length ex2) .nil))
  fun av X κ => av = avBool true ∧ X = [.sl true () 2 (dEns l), .sl true () 2 (dEns l)] ∧ κ = [] :=
 warmL (t0 := .cons (.imm 2 (dEns l) ex) (.cons (.sub 0 [] 0 l.length ex2) .nil)) (warmL (pairs_ok l ex ex2 hl) (by simp [AV.chilled]) rfl (by simp) rfl) (by simp [AV.chilled]) rfl (by simp [T.allOwn]) rfl
theorem all_len {h : Hp} (k : Ok h) : (allOf h).length ≤ 2000 := by
 have := k.lens
 simp [allOf, obs]; omega
theorem live_len {h : Hp} (k : Ok h) : (liveOf h).length ≤ 2000 := by
 classical
 rw [← live_filter k (p := fun x => decide (RR h x)) (by simp)]
 exact Nat.le_trans (List.length_filter_le _ _) (all_len k)
theorem remembs_len {h : Hp} (k : Ok h) : (remembOf h).length ≤ 2000 := by
 have := k.lens
 have h1 := List.length_filter_le (remB h) h.old
 simp [remembOf]; omega

/- cabochon/cabochonlaw27.object -/
theorem object_i (h : Hp) (k : Ok h) (x : Int) : Meets Try.prog 54 [dHp h] (.cons (.ptr 0 [.d]) (.cons (avE h) (.cons (avInt x) .nil))) fun av X κ => av = avBool true ∧ X = [dHp h] ∧ κ = [] := by
 refine fb Try.func54 Try.ntmps54 [.tmp 6] fun w0 I0 F0 hF => ?_
 repeat first|refine n1 ?_|((first|refine rg 0 [0, 1, 2] [0, 1, 2] [] ?_|refine rg 1 [0, 1, 2] [0, 1, 2, 7, 8, 9, 10] [] ?_);simp (maxSteps := 1000000) [hF])
 refine (place_c h k x).go [(0, [])] (by simp (maxSteps := 1000000) [hF, dHp]) ?_;rintro av X κ ⟨rfl, rfl, rfl⟩;simp (maxSteps := 1000000) [hF, dHp]
 repeat first|refine n1 ?_|(refine rg 2 [0, 1, 2, 7, 8, 9, 10] [0, 1, 2, 7, 8, 9, 10, 11, 12, 13, 14] [] ?_;simp (maxSteps := 1000000) [hF])
 refine (eplace_ok h k x).go [] (by simp (maxSteps := 1000000) [hF, dHp]) ?_;rintro av X κ ⟨rfl, rfl, rfl⟩;simp (maxSteps := 1000000) [hF, dHp]
 repeat first|refine n1 ?_|refine n2 ?_|refine n3 ?_|((first|refine rg 3 [0, 1, 2, 7, 8, 9, 10, 11, 12, 13, 14] [0, 1, 2, 53] [(3, 39), (8, 44), (13, 49)] ?_|refine rg 5 [0, 1, 2] [0, 1, 2, 15] [] ?_|refine nc ?_);simp (maxSteps := 1000000) [hF])
 refine VS.rounds (fun m st => ∃ (i : Nat), i + m = 10 ∧ st = ⟨[(0, .ptr 0 [.d]), (1, avE h), (2, avInt x), (15, avInt ((i : Int) - 1))], [dHp h], [], []⟩) ⟨10, 0, by omega, by simp [dHp]⟩ ?_
 rintro m st ⟨i, hi, rfl⟩
 repeat first|refine n1 ?_|((first|refine rg 6 [0, 1, 2, 15] [0, 1, 2, 15, 55] [] ?_|refine nc ?_);simp (maxSteps := 1000000) [hF])
 refine ⟨fun hlt => ?_, fun hge => ?_⟩
 ·have hw1 : IntKind.i64.wrap (i : Int) = i := IntWalk.i64_in _ (by omega)
  repeat first|refine n1 ?_|refine n2 ?_|refine n3 ?_|(refine rg 8 [0, 1, 2, 15] [0, 1, 2, 15, 16, 17] [] ?_;simp (maxSteps := 1000000) [hF])
  refine (get_ok h k x ((i : Int) - 1)).go [(0, [])] (by simp (maxSteps := 1000000) [hF, dHp]) ?_;rintro av X κ ⟨rfl, rfl, rfl⟩;simp (maxSteps := 1000000) [hF, dHp]
  repeat first|refine n1 ?_|(refine rg 9 [0, 1, 2, 15, 16, 17] [0, 1, 2, 15, 16, 17, 18, 19] [] ?_;simp (maxSteps := 1000000) [hF])
  refine (eget_ok h k x ((i : Int) - 1)).go [] (by simp (maxSteps := 1000000) [hF, dHp]) ?_;rintro av X κ ⟨rfl, rfl, rfl⟩;simp (maxSteps := 1000000) [hF, dHp]
  repeat first|refine n1 ?_|refine n2 ?_|refine n4 ?_|refine n5 ?_|refine n6 ?_|((first|refine rg 7 [0, 1, 2, 15] [0, 1, 2, 15] [] ?_|refine rg 10 [0, 1, 2, 15, 16, 17, 18, 19] [0, 1, 2, 15, 79] [(3, 75)] ?_|refine nc ?_);simp (maxSteps := 1000000) [hF, hw1])
  refine nextK.of [0, 1, 2, 15] [0] (m - 1) (by omega) (by simp [hF]) ?_
  exact ⟨i + 1, by omega, by simp [dHp]⟩
 ·repeat first|refine n1 ?_|refine n7 ?_|(refine rg 12 [] [6] [] ?_;simp (maxSteps := 1000000) [hF])
  (try refine nr ?_);(repeat first|refine nb_ ?_|refine nl_ ?_);refine endK.o [6] [0] [] ?_;simp [hF, retK, covers, mpre, dHp]

/- cabochon/cabochonlaw27.alike -/
theorem alike_i (h : Hp) (k : Ok h) (hnx : h.next ≤ 1000000) (hwl : h.weak.length ≤ 1000000) : Meets Try.prog 26 [dHp h] (.cons (.ptr 0 [.d]) (.cons (avE h) .nil)) fun av X κ => av = avBool true ∧ X = [dHp h] ∧ κ = [] := by
 have hn1 := k.next
 obtain ⟨N, hN⟩ : ∃ N : Nat, h.next = N := ⟨h.next.toNat, by omega⟩
 have al := all_len k
 have ll := live_len k
 have rl := remembs_len k
 refine fb Try.func26 Try.ntmps26 [.tmp 4] fun w0 I0 F0 hF => ?_
 repeat first|refine n1 ?_|refine n3 ?_|((first|refine rg 0 [0, 1] [0, 1] [] ?_|refine rg 1 [0, 1] [0, 1, 5] [] ?_);simp (maxSteps := 1000000) [hF])
 refine VS.rounds (fun m st => ∃ (i : Nat), i + m = N + 2 ∧ st = ⟨[(0, .ptr 0 [.d]), (1, avE h), (5, avInt ((i : Int) - 1))], [dHp h], [], []⟩) ⟨N + 2, 0, by omega, by simp [dHp]⟩ ?_
 rintro m st ⟨i, hi, rfl⟩
 repeat first|refine n1 ?_|((first|refine rg 2 [0, 1, 5] [0, 1, 5, 15] [] ?_|refine nc ?_);simp (maxSteps := 1000000) [hF, eHb, hN])
 refine ⟨fun hlt => ?_, fun hge => ?_⟩
 ·have hw1 : IntKind.i64.wrap (i : Int) = i := IntWalk.i64_in _ (by omega)
  repeat first|refine n1 ?_|refine n2 ?_|refine n3 ?_|(refine rg 4 [0, 1, 5] [0, 1, 5, 22] [] ?_;simp (maxSteps := 1000000) [hF])
  refine (object_i h k ((i : Int) - 1)).go [(0, [])] (by simp (maxSteps := 1000000) [hF, dHp]) ?_;rintro av X κ ⟨rfl, rfl, rfl⟩;simp (maxSteps := 1000000) [hF, dHp]
  repeat first|refine n2 ?_|refine n4 ?_|refine n5 ?_|refine n6 ?_|((first|refine rg 3 [0, 1, 5] [0, 1, 5] [] ?_|refine nc ?_);simp (maxSteps := 1000000) [hF, hw1])
  refine nextK.of [0, 1, 5] [0] (m - 1) (by omega) (by simp [hF]) ?_
  exact ⟨i + 1, by omega, by simp [dHp]⟩
 ·repeat first|refine n1 ?_|refine n7 ?_|(refine rg 6 [0, 1] [0, 1, 6, 7] [] ?_;simp (maxSteps := 1000000) [hF])
  refine (hused_c h k).go [(0, [])] (by simp (maxSteps := 1000000) [hF, dHp]) ?_;rintro av X κ ⟨rfl, rfl, rfl⟩;simp (maxSteps := 1000000) [hF, dHp]
  repeat first|refine n1 ?_|(refine rg 7 [0, 1, 6, 7] [0, 1, 6, 7, 8, 9] [] ?_;simp (maxSteps := 1000000) [hF])
  refine (eused_ok h k).go [] (by simp (maxSteps := 1000000) [hF, dHp]) ?_;rintro av X κ ⟨rfl, rfl, rfl⟩;simp (maxSteps := 1000000) [hF, dHp]
  repeat first|refine n1 ?_|(refine rg 8 [0, 1, 6, 7, 8, 9] [4] [(3, 36), (8, 41), (15, 48), (22, 55), (29, 62)] ?_;simp (maxSteps := 1000000) [hF])
  refine (all_c h k).go [(0, [])] (by simp (maxSteps := 1000000) [hF, dHp]) ?_;rintro av X κ ⟨rfl, rfl, rfl⟩;simp (maxSteps := 1000000) [hF, dHp]
  refine (eall_ok h k).go [] (by simp (maxSteps := 1000000) [hF, dHp]) ?_;rintro av X κ ⟨rfl, rfl, rfl⟩;simp (maxSteps := 1000000) [hF, dHp]
  refine (ints_c (allOf h) false false (by omega)).go [(1, []), (2, [])] (by simp (maxSteps := 1000000) [hF, dHp]) ?_;rintro av X κ ⟨rfl, rfl, rfl⟩;simp (maxSteps := 1000000) [hF, dHp]
  refine (live_c h k).go [(0, [])] (by simp (maxSteps := 1000000) [hF, dHp]) ?_;rintro av X κ ⟨rfl, rfl, rfl⟩;simp (maxSteps := 1000000) [hF, dHp]
  refine (elive_ok h k).go [] (by simp (maxSteps := 1000000) [hF, dHp]) ?_;rintro av X κ ⟨rfl, rfl, rfl⟩;simp (maxSteps := 1000000) [hF, dHp]
  refine (ints_c (liveOf h) false false (by omega)).go [(3, []), (4, [])] (by simp (maxSteps := 1000000) [hF, dHp]) ?_;rintro av X κ ⟨rfl, rfl, rfl⟩;simp (maxSteps := 1000000) [hF, dHp]
  refine (remembered_c h k).go [(0, [])] (by simp (maxSteps := 1000000) [hF, dHp]) ?_;rintro av X κ ⟨rfl, rfl, rfl⟩;simp (maxSteps := 1000000) [hF, dHp]
  refine (eremembered_ok h k).go [] (by simp (maxSteps := 1000000) [hF, dHp]) ?_;rintro av X κ ⟨rfl, rfl, rfl⟩;simp (maxSteps := 1000000) [hF, dHp]
  refine (ints_c (remembOf h) false false (by omega)).go [(5, []), (6, [])] (by simp (maxSteps := 1000000) [hF, dHp]) ?_;rintro av X κ ⟨rfl, rfl, rfl⟩;simp (maxSteps := 1000000) [hF, dHp]
  refine (weaks_c h k hwl).go [(0, [])] (by simp (maxSteps := 1000000) [hF, dHp]) ?_;rintro av X κ ⟨rfl, rfl, rfl⟩;simp (maxSteps := 1000000) [hF, dHp]
  refine (eweaks_ok h k hwl).go [] (by simp (maxSteps := 1000000) [hF, dHp]) ?_;rintro av X κ ⟨rfl, rfl, rfl⟩;simp (maxSteps := 1000000) [hF, dHp]
  refine (pairs_c h.weak false false hwl).go [(7, []), (8, [])] (by simp (maxSteps := 1000000) [hF, dHp]) ?_;rintro av X κ ⟨rfl, rfl, rfl⟩;simp (maxSteps := 1000000) [hF, dHp]
  (try refine nr ?_);(repeat first|refine nb_ ?_|refine nl_ ?_);refine endK.o [4] [0] [] ?_;simp [hF, retK, covers, mpre, dHp]
theorem alike_c (h : Hp) (k : Ok h) (hnx : h.next ≤ 1000000) (hwl : h.weak.length ≤ 1000000) : Meets Try.prog 26 [eHp h, dHp h] (.cons (.ptr 1 [.d]) (.cons (.ptr 0 [.d]) .nil)) fun av X κ => av = avBool true ∧ X = [eHp h, dHp h] ∧ κ = [] := by
 have e : (AV.cons (.ptr 1 [.d]) (.cons (.ptr 0 [.d]) .nil)).chilled (eHp h) = .cons (.ptr 0 [.d]) (.cons (avE h) .nil) := by rw [AV.chilled, chillE]; rfl
 refine Meets.mono (Meets.warm (d0 := eHp h) (Y := [dHp h]) (by rw [e]; exact alike_i h k hnx hwl) ?_) ?_
 ·rintro av X κ ⟨rfl, rfl, rfl⟩; exact ⟨rfl, by simp, rfl⟩
 ·rintro av X κ ⟨av0, X0, ⟨rfl, rfl, _⟩, rfl, rfl, rfl⟩; exact ⟨rfl, rfl, rfl⟩
def S0 : Hp := bornOf 8 8
def S1 : Hp := ⟨8, 8, [⟨1, 0, [0]⟩], [], 2, [], [], [], []⟩
def S2 : Hp := ⟨8, 8, [⟨1, 0, [0]⟩, ⟨2, 0, [0]⟩], [], 3, [], [], [], []⟩
def S3 : Hp := ⟨8, 8, [⟨1, 0, [0]⟩, ⟨2, 0, [0]⟩], [], 3, [1], [], [], []⟩
def S4 : Hp := ⟨8, 8, [⟨1, 1, [0]⟩], [], 3, [1], [], [], []⟩
def S5 : Hp := ⟨8, 8, [], [⟨1, 2, [0]⟩], 3, [1], [], [], []⟩
theorem s1 : makeOf S0 1 = (S1, 1, 0) := by kernel_rfl
theorem s2 : makeOf S1 1 = (S2, 2, 0) := by kernel_rfl
theorem s3 : rootsOf S2 [1] = (S3, 0) := by kernel_rfl
theorem s4 : collectE S3 true = (S4, 1) := by kernel_rfl
theorem s5 : placeOf S4 1 = (false, 0, 1, 0) := by kernel_rfl
theorem s6 : collectE S4 true = (S5, 0) := by kernel_rfl
theorem s7 : placeOf S5 1 = (true, 0, 2, 0) := by kernel_rfl
theorem FS0 : Fit 0 S0 := fit_born (by omega) (by omega)
theorem FS1 : Fit 1 S1 := by have := fit_do FS0 ⟨0, 1, 0, 0, []⟩; rwa [doE_0, s1] at this
theorem FS2 : Fit 2 S2 := by have := fit_do FS1 ⟨0, 1, 0, 0, []⟩; rwa [doE_0, s2] at this
theorem FS3 : Fit 3 S3 := by have := fit_do FS2 ⟨2, 0, 0, 0, [1]⟩; rwa [doE_2, s3] at this
theorem FS4 : Fit 4 S4 := by have := fit_do FS3 ⟨3, 0, 0, 0, []⟩; rwa [doE_3, s4] at this
theorem FS5 : Fit 5 S5 := by have := fit_do FS4 ⟨3, 0, 0, 0, []⟩; rwa [doE_3, s6] at this
theorem one_ints : dInts ([1] ++ []) = .cons (.val (.int .i64 1)) .nil := rfl
theorem one_ints' : dInts [1] = .cons (.val (.int .i64 1)) .nil := rfl

/- cabochon/cabochonlaw27.sane -/
theorem sane_ok : Meets Try.prog 15 [] .nil fun av X κ => av = avBool true ∧ X = [] ∧ κ = [] := by
 have hS0 : bornOf 8 8 = S0 := rfl
 refine fb Try.func15 Try.ntmps15 [.tmp 0] fun w0 I0 F0 hF => ?_
 repeat first|refine n1 ?_|((first|refine rg 0 [] [] [] ?_|refine rg 1 [] [1, 2] [] ?_);simp (maxSteps := 1000000) [hF])
 refine (new_ok 8 8 (by omega) (by omega)).go [] (by simp (maxSteps := 1000000) [hF, hS0]) ?_;rintro av X κ ⟨rfl, rfl, rfl⟩;simp (maxSteps := 1000000) [hF, hS0]
 repeat first|refine n1 ?_|refine n2 ?_|((first|refine rg 2 [1, 2] [1, 25] [(2, 22)] ?_|refine rg 4 [1] [1] [] ?_|refine nc ?_);simp (maxSteps := 1000000) [hF])
 refine (make_ok S0 FS0.fine.ok 1 (by decide)).go [(0, [])] (by simp (maxSteps := 1000000) [hF, s1, dHp]) ?_;rintro av X κ ⟨rfl, rfl, rfl⟩;simp (maxSteps := 1000000) [hF, s1, dHp]
 repeat first|refine n1 ?_|(refine rg 5 [1] [1] [] ?_;simp (maxSteps := 1000000) [hF])
 refine (make_ok S1 FS1.fine.ok 1 (by decide)).go [(0, [])] (by simp (maxSteps := 1000000) [hF, s2, dHp]) ?_;rintro av X κ ⟨rfl, rfl, rfl⟩;simp (maxSteps := 1000000) [hF, s2, dHp]
 repeat first|refine n1 ?_|(refine rg 6 [1] [1, 3] [] ?_;simp (maxSteps := 1000000) [hF])
 refine (roots_c S2 FS2.fine.ok [1] [] true (by simp)).go [(1, []), (0, [])] (by simp (maxSteps := 1000000) [hF, s3, dHp, one_ints, one_ints']) ?_;rintro av X κ ⟨rfl, rfl, rfl⟩;simp (maxSteps := 1000000) [hF, s3, dHp, one_ints, one_ints']
 repeat first|refine n1 ?_|(refine rg 7 [1, 3] [1, 3, 4, 5] [] ?_;simp (maxSteps := 1000000) [hF])
 refine (minor_ok S3 FS3.fine.ok (FS3.wl (by omega)) (FS3.fl (by omega)) (FS3.ql (by omega)) (FS3.ag (by omega))).go [(0, [])] (by simp (maxSteps := 1000000) [hF, s4, dHp]) ?_;rintro av X κ ⟨rfl, rfl, rfl⟩;simp (maxSteps := 1000000) [hF, s4, dHp]
 repeat first|refine n1 ?_|(refine rg 8 [1, 3, 4, 5] [1, 3, 4, 5, 6, 7, 8, 9] [] ?_;simp (maxSteps := 1000000) [hF])
 refine (place_c S4 FS4.fine.ok 1).go [(0, [])] (by simp (maxSteps := 1000000) [hF, s5, dHp]) ?_;rintro av X κ ⟨rfl, rfl, rfl⟩;simp (maxSteps := 1000000) [hF, s5, dHp]
 repeat first|refine n1 ?_|(refine rg 9 [1, 3, 4, 5, 6, 7, 8, 9] [1, 3, 4, 5, 6, 7, 8, 9, 10, 11] [] ?_;simp (maxSteps := 1000000) [hF])
 refine (minor_ok S4 FS4.fine.ok (FS4.wl (by omega)) (FS4.fl (by omega)) (FS4.ql (by omega)) (FS4.ag (by omega))).go [(0, [])] (by simp (maxSteps := 1000000) [hF, s6, dHp]) ?_;rintro av X κ ⟨rfl, rfl, rfl⟩;simp (maxSteps := 1000000) [hF, s6, dHp]
 repeat first|refine n1 ?_|(refine rg 10 [1, 3, 4, 5, 6, 7, 8, 9, 10, 11] [3, 4, 5, 6, 7, 8, 9, 10, 11, 12, 15] [] ?_;simp (maxSteps := 1000000) [hF])
 refine (place_c S5 FS5.fine.ok 1).go [(0, [])] (by simp (maxSteps := 1000000) [hF, s7, dHp]) ?_;rintro av X κ ⟨rfl, rfl, rfl⟩;simp (maxSteps := 1000000) [hF, s7, dHp]
 repeat first|refine n1 ?_|(refine rg 11 [3, 4, 5, 6, 7, 8, 9, 10, 11, 12, 15] [0] [(2, 59), (6, 63), (10, 67), (14, 71), (18, 75), (22, 79), (26, 83), (30, 87), (34, 91), (37, 94)] ?_;simp (maxSteps := 1000000) [hF])
 (try refine nr ?_);(repeat first|refine nb_ ?_|refine nl_ ?_);refine endK.o [0] [] [] ?_;simp [hF, retK, covers, mpre]
/-- The deed that is done. -/
def actD (d : Hd) (h : Hp) : Hd := { fitD d h.next.toNat with l := (fitD d h.next.toNat).l.take 60 }
/- cabochon/cabochonlaw27.does -/
theorem does_ok {n : Nat} {h : Hp} (f : Fit n h) (hn : n ≤ 1000) (d : Hd) : Meets Try.prog 37 [dHp h, eHp h] (.cons (.ptr 0 [.d]) (.cons (.ptr 1 [.d]) (.cons (avLd d) .nil)))
  fun av X κ => av = avBool true ∧ X = [dHp (doE h (actD d h)).1, eHp (doE h (actD d h)).1] ∧ κ = [(0, [.d]), (1, [.d])] := by
 have k := f.fine.ok
 have hnx : h.next ≤ 1000000 := by have := f.next; omega
 have hnx1 := k.next
 have hwl := f.wl (by omega)
 have hfl := f.fl (by omega)
 have hql := f.ql (by omega)
 have hag := f.ag (by omega)
 obtain ⟨N, hN⟩ : ∃ N : Nat, h.next = N := ⟨h.next.toNat, by omega⟩
 obtain ⟨d', hd'⟩ : ∃ d', d' = fitD d N := ⟨_, rfl⟩
 have hact : actD d h = { d' with l := d'.l.take 60 } := by rw [hd', actD, hN]; rfl
 have hdv : avLd d = .agg (.cons (avInt d.d) (.cons (avInt d.a) (.cons (avInt d.b) (.cons (avInt d.c) (.cons (.imm 1 (dInts d.l) false) .nil))))) := rfl
 refine fb Try.func37 Try.ntmps37 [.tmp 6] fun w0 I0 F0 hF => ?_
 have hft := fitted_ok d N (by omega) (by have := f.next; omega)
 rw [← hN, ← hd'] at hft
 repeat first|refine n1 ?_|((first|refine rg 0 [0, 1, 2] [0, 1, 5] [] ?_|(refine dr 1 0 [0, 1, 5] [0, 1, 5] [] [⟨0, 32, 4096, 6⟩, ⟨0, 2, 8192, 5⟩, ⟨2, 8192, 16384, 5⟩, ⟨4, 16384, 32768, 5⟩, ⟨8, 32768, 65536, 6⟩, ⟨17, 69632, 131072, 0⟩, ⟨63, 131104, 0, 0⟩] (.take 0 (.take 1 (.take 2 (.take 3 (.take 4 (.fork (.alt 5 (.fork (.alt 6 (.done) (.nil))) (.nil)))))))) (.run [0, 1, 2, 3, 4, 5, 6] (.done)) ?_;simp only [drs]));simp (maxSteps := 1000000) [hF, hdv, eHp, eHb])
 refine (hft).go [] (by simp (maxSteps := 1000000) [hF, eHp, eHb, hdv, avLd, dLd]) ?_;rintro av X κ ⟨rfl, rfl, rfl⟩;simp (maxSteps := 1000000) [hF, eHp, eHb, hdv, avLd, dLd]
 have hl6 : (d'.l.take 60).length ≤ 100000000 := by rw [List.length_take]; omega
 repeat first|refine n1 ?_|refine n3 ?_|((first|refine rg 2 [0, 1, 5] [0, 1, 5, 7, 8] [] ?_|refine rg 3 [0, 1, 5, 7, 8] [0, 1, 5, 7, 8, 9, 10] [] ?_|refine rg 4 [0, 1, 5, 7, 8, 9, 10] [0, 1, 5, 7, 8, 9, 10, 19] [] ?_|refine rg 5 [0, 1, 5, 7, 8, 9, 10, 19] [0, 1, 5, 7, 8, 9, 10, 19, 20] [] ?_|refine nc ?_);simp (maxSteps := 1000000) [hF])
 refine ⟨fun h0 => ?_, fun h0 => ?_⟩
 ·have hdo : doE h (actD d h) = makeOf h d'.a := by rw [hact]; simp [doE, h0]
  repeat first|refine n1 ?_|(refine rg 6 [0, 1, 5] [1, 5, 7, 9] [] ?_;simp (maxSteps := 1000000) [hF])
  refine (make_ok h k d'.a hnx).go [(0, [])] (by simp (maxSteps := 1000000) [hF, eHp, eHb, dHp]) ?_;rintro av X κ ⟨rfl, rfl, rfl⟩;simp (maxSteps := 1000000) [hF, eHp, eHb, dHp]
  repeat first|(refine rg 7 [1, 5, 7, 9] [7, 8, 9, 10] [] ?_;simp (maxSteps := 1000000) [hF])
  refine (emake_ok h k d'.a hnx).go [(1, [])] (by simp (maxSteps := 1000000) [hF, eHp, eHb]) ?_;rintro av X κ ⟨rfl, rfl, rfl⟩;simp (maxSteps := 1000000) [hF, eHp, eHb]
  repeat first|refine n1 ?_|refine n4 ?_|(refine rg 30 [7, 8, 9, 10] [6] [(3, 142)] ?_;simp (maxSteps := 1000000) [hF])
  refine VS.widen [(0, [.d]), (1, [.d])] (by simp [covers, mpre]) ?_
  (try refine nr ?_);(repeat first|refine nb_ ?_|refine nl_ ?_);refine endK.o [6] [0, 1] [(0, [.d]), (1, [.d])] ?_;simp [hF, retK, covers, mpre, eHp, eHb, dHp, hdo]
 ·repeat first|refine n1 ?_|((first|refine rg 8 [0, 1, 5, 7, 8, 9, 10, 19] [0, 1, 5, 7, 8, 9, 10, 19, 36] [] ?_|refine nc ?_);simp (maxSteps := 1000000) [hF])
  refine ⟨fun h1 => ?_, fun h1 => ?_⟩
  ·have hdo : doE h (actD d h) = ((setOf h d'.a d'.b d'.c).1, 0, (setOf h d'.a d'.b d'.c).2) := by rw [hact]; simp [doE, h1]
   repeat first|refine n1 ?_|(refine rg 9 [0, 1, 5, 7, 8] [1, 5, 7, 8, 9] [] ?_;simp (maxSteps := 1000000) [hF])
   refine (set_ok h k d'.a d'.b d'.c).go [(0, [])] (by simp (maxSteps := 1000000) [hF, eHp, eHb, dHp]) ?_;rintro av X κ ⟨rfl, rfl, rfl⟩;simp (maxSteps := 1000000) [hF, eHp, eHb, dHp]
   repeat first|(refine rg 10 [1, 5, 7, 8, 9] [7, 8, 9, 10] [] ?_;simp (maxSteps := 1000000) [hF])
   refine (eset_ok h k d'.a d'.b d'.c).go [(1, [])] (by simp (maxSteps := 1000000) [hF, eHp, eHb]) ?_;rintro av X κ ⟨rfl, rfl, rfl⟩;simp (maxSteps := 1000000) [hF, eHp, eHb]
   repeat first|refine n1 ?_|refine n4 ?_|(refine rg 30 [7, 8, 9, 10] [6] [(3, 142)] ?_;simp (maxSteps := 1000000) [hF])
   refine VS.widen [(0, [.d]), (1, [.d])] (by simp [covers, mpre]) ?_
   (try refine nr ?_);(repeat first|refine nb_ ?_|refine nl_ ?_);refine endK.o [6] [0, 1] [(0, [.d]), (1, [.d])] ?_;simp [hF, retK, covers, mpre, eHp, eHb, dHp, hdo]
  ·repeat first|refine n1 ?_|((first|refine rg 11 [0, 1, 5, 7, 8, 9, 10, 19] [0, 1, 5, 7, 8, 9, 10, 19, 54] [] ?_|refine nc ?_);simp (maxSteps := 1000000) [hF])
   refine ⟨fun h2 => ?_, fun h2 => ?_⟩
   ·obtain ⟨M, hM⟩ : ∃ M, M = (d'.l.take 60).length := ⟨_, rfl⟩
    have hM2 : M ≤ d'.l.length ∧ M ≤ 60 ∧ (d'.l.length ≤ 60 → M = d'.l.length) ∧ (60 < d'.l.length → M = 60) := by rw [hM, List.length_take]; omega
    have hmn : (if (60 : Int) < (d'.l.length : Int) then (60 : Int) else d'.l.length) = (M : Int) := by split <;> omega
    have hNl : (M : Int) ≤ d'.l.length := by omega
    have hN0 : 0 ≤ (M : Int) := by omega
    have hmid : (dInts d'.l).mid 0 M = dInts (d'.l.take 60) := by
     rw [ints_mid, List.drop_zero, hM, List.length_take]
     congr 1
     by_cases h9 : 60 ≤ d'.l.length
     ·rw [Nat.min_eq_left h9]
     ·rw [Nat.min_eq_right (by omega), List.take_of_length_le (by omega), List.take_of_length_le (by omega)]
    have hNn := hM2.1
    have hdo : doE h (actD d h) = ((rootsOf h (d'.l.take 60)).1, 0, (rootsOf h (d'.l.take 60)).2) := by rw [hact]; simp [doE, h2]
    repeat first|refine n1 ?_|((first|refine rg 12 [0, 1, 5, 7, 8] [0, 1, 7, 8, 11] [] ?_|refine rg 13 [0, 1, 7, 8, 11] [1, 7, 8, 9, 11] [] ?_);simp (maxSteps := 1000000) [hF, hmn, hNl, hN0, hNn, hmid])
    refine (roots_ok h k (d'.l.take 60) false hl6).go [(0, [])] (by simp (maxSteps := 1000000) [hF, eHp, eHb, dHp]) ?_;rintro av X κ ⟨rfl, rfl, rfl⟩;simp (maxSteps := 1000000) [hF, eHp, eHb, dHp]
    repeat first|(refine rg 14 [1, 7, 8, 9, 11] [7, 8, 9, 10] [] ?_;simp (maxSteps := 1000000) [hF])
    refine (eroots_ok h k (d'.l.take 60) false hl6).go [(1, [])] (by simp (maxSteps := 1000000) [hF, eHp, eHb]) ?_;rintro av X κ ⟨rfl, rfl, rfl⟩;simp (maxSteps := 1000000) [hF, eHp, eHb]
    repeat first|refine n1 ?_|refine n4 ?_|(refine rg 30 [7, 8, 9, 10] [6] [(3, 142)] ?_;simp (maxSteps := 1000000) [hF])
    refine VS.widen [(0, [.d]), (1, [.d])] (by simp [covers, mpre]) ?_
    (try refine nr ?_);(repeat first|refine nb_ ?_|refine nl_ ?_);refine endK.o [6] [0, 1] [(0, [.d]), (1, [.d])] ?_;simp [hF, retK, covers, mpre, eHp, eHb, dHp, hdo]
   ·repeat first|refine n1 ?_|((first|refine rg 15 [0, 1, 5, 7, 8, 9, 10, 19] [0, 1, 5, 7, 8, 9, 10, 19, 69] [] ?_|refine nc ?_);simp (maxSteps := 1000000) [hF])
    refine ⟨fun h3 => ?_, fun h3 => ?_⟩
    ·have hdo : doE h (actD d h) = ((collectE h true).1, (collectE h true).2, 0) := by rw [hact]; simp [doE, h3]
     repeat first|refine n1 ?_|(refine rg 16 [0, 1] [1, 7, 9] [] ?_;simp (maxSteps := 1000000) [hF])
     refine (minor_ok h k hwl hfl hql hag).go [(0, [])] (by simp (maxSteps := 1000000) [hF, eHp, eHb, dHp]) ?_;rintro av X κ ⟨rfl, rfl, rfl⟩;simp (maxSteps := 1000000) [hF, eHp, eHb, dHp]
     repeat first|(refine rg 17 [1, 7, 9] [7, 8, 9, 10] [] ?_;simp (maxSteps := 1000000) [hF])
     refine (eminor_ok h k hwl hfl hql hag).go [(1, [])] (by simp (maxSteps := 1000000) [hF, eHp, eHb]) ?_;rintro av X κ ⟨rfl, rfl, rfl⟩;simp (maxSteps := 1000000) [hF, eHp, eHb]
     repeat first|refine n1 ?_|refine n4 ?_|(refine rg 30 [7, 8, 9, 10] [6] [(3, 142)] ?_;simp (maxSteps := 1000000) [hF])
     refine VS.widen [(0, [.d]), (1, [.d])] (by simp [covers, mpre]) ?_
     (try refine nr ?_);(repeat first|refine nb_ ?_|refine nl_ ?_);refine endK.o [6] [0, 1] [(0, [.d]), (1, [.d])] ?_;simp [hF, retK, covers, mpre, eHp, eHb, dHp, hdo]
    ·repeat first|refine n1 ?_|((first|refine rg 18 [0, 1, 5, 7, 8, 9, 10, 19] [0, 1, 5, 7, 8, 9, 10, 19, 81] [] ?_|refine nc ?_);simp (maxSteps := 1000000) [hF])
     refine ⟨fun h4 => ?_, fun h4 => ?_⟩
     ·have hdo : doE h (actD d h) = ((collectE h false).1, (collectE h false).2, 0) := by rw [hact]; simp [doE, h4]
      repeat first|refine n1 ?_|(refine rg 19 [0, 1] [1, 7, 9] [] ?_;simp (maxSteps := 1000000) [hF])
      refine (major_ok h k hwl hfl hql hag).go [(0, [])] (by simp (maxSteps := 1000000) [hF, eHp, eHb, dHp]) ?_;rintro av X κ ⟨rfl, rfl, rfl⟩;simp (maxSteps := 1000000) [hF, eHp, eHb, dHp]
      repeat first|(refine rg 20 [1, 7, 9] [7, 8, 9, 10] [] ?_;simp (maxSteps := 1000000) [hF])
      refine (emajor_ok h k hwl hfl hql hag).go [(1, [])] (by simp (maxSteps := 1000000) [hF, eHp, eHb]) ?_;rintro av X κ ⟨rfl, rfl, rfl⟩;simp (maxSteps := 1000000) [hF, eHp, eHb]
      repeat first|refine n1 ?_|refine n4 ?_|(refine rg 30 [7, 8, 9, 10] [6] [(3, 142)] ?_;simp (maxSteps := 1000000) [hF])
      refine VS.widen [(0, [.d]), (1, [.d])] (by simp [covers, mpre]) ?_
      (try refine nr ?_);(repeat first|refine nb_ ?_|refine nl_ ?_);refine endK.o [6] [0, 1] [(0, [.d]), (1, [.d])] ?_;simp [hF, retK, covers, mpre, eHp, eHb, dHp, hdo]
     ·repeat first|refine n1 ?_|((first|refine rg 21 [0, 1, 5, 7, 8, 9, 10, 19] [0, 1, 5, 7, 8, 9, 10, 19, 93] [] ?_|refine nc ?_);simp (maxSteps := 1000000) [hF])
      refine ⟨fun h5 => ?_, fun h5 => ?_⟩
      ·have hdo : doE h (actD d h) = weakOf h d'.a d'.b := by rw [hact]; simp [doE, h5]
       repeat first|refine n1 ?_|(refine rg 22 [0, 1, 5] [1, 5, 7, 9] [] ?_;simp (maxSteps := 1000000) [hF])
       refine (weak_ok h k hwl d'.a d'.b).go [(0, [])] (by simp (maxSteps := 1000000) [hF, eHp, eHb, dHp]) ?_;rintro av X κ ⟨rfl, rfl, rfl⟩;simp (maxSteps := 1000000) [hF, eHp, eHb, dHp]
       repeat first|(refine rg 23 [1, 5, 7, 9] [7, 8, 9, 10] [] ?_;simp (maxSteps := 1000000) [hF])
       refine (eweak_ok h k hwl d'.a d'.b).go [(1, [])] (by simp (maxSteps := 1000000) [hF, eHp, eHb]) ?_;rintro av X κ ⟨rfl, rfl, rfl⟩;simp (maxSteps := 1000000) [hF, eHp, eHb]
       repeat first|refine n1 ?_|refine n4 ?_|(refine rg 30 [7, 8, 9, 10] [6] [(3, 142)] ?_;simp (maxSteps := 1000000) [hF])
       refine VS.widen [(0, [.d]), (1, [.d])] (by simp [covers, mpre]) ?_
       (try refine nr ?_);(repeat first|refine nb_ ?_|refine nl_ ?_);refine endK.o [6] [0, 1] [(0, [.d]), (1, [.d])] ?_;simp [hF, retK, covers, mpre, eHp, eHb, dHp, hdo]
      ·repeat first|refine n1 ?_|((first|refine rg 24 [0, 1, 5, 7, 8, 9, 10, 19] [0, 1, 5, 7, 8, 9, 10, 19, 113] [] ?_|refine nc ?_);simp (maxSteps := 1000000) [hF])
       refine ⟨fun h6 => ?_, fun h6 => ?_⟩
       ·have hdo : doE h (actD d h) = ((finalOf h d'.a d'.b).1, 0, (finalOf h d'.a d'.b).2) := by rw [hact]; simp [doE, h6]
        repeat first|refine n1 ?_|(refine rg 25 [0, 1, 5, 7, 8] [1, 5, 7, 8, 9] [] ?_;simp (maxSteps := 1000000) [hF])
        refine (final_ok h k hfl d'.a d'.b).go [(0, [])] (by simp (maxSteps := 1000000) [hF, eHp, eHb, dHp]) ?_;rintro av X κ ⟨rfl, rfl, rfl⟩;simp (maxSteps := 1000000) [hF, eHp, eHb, dHp]
        repeat first|(refine rg 26 [1, 5, 7, 8, 9] [7, 8, 9, 10] [] ?_;simp (maxSteps := 1000000) [hF])
        refine (efinal_ok h k hfl d'.a d'.b).go [(1, [])] (by simp (maxSteps := 1000000) [hF, eHp, eHb]) ?_;rintro av X κ ⟨rfl, rfl, rfl⟩;simp (maxSteps := 1000000) [hF, eHp, eHb]
        repeat first|refine n1 ?_|refine n4 ?_|(refine rg 30 [7, 8, 9, 10] [6] [(3, 142)] ?_;simp (maxSteps := 1000000) [hF])
        refine VS.widen [(0, [.d]), (1, [.d])] (by simp [covers, mpre]) ?_
        (try refine nr ?_);(repeat first|refine nb_ ?_|refine nl_ ?_);refine endK.o [6] [0, 1] [(0, [.d]), (1, [.d])] ?_;simp [hF, retK, covers, mpre, eHp, eHb, dHp, hdo]
       ·repeat first|refine n1 ?_|((first|refine rg 27 [0, 1, 7, 8, 9, 10, 19] [0, 1, 7, 8, 9, 10, 127] [] ?_|refine nc ?_);simp (maxSteps := 1000000) [hF])
        refine ⟨fun h7 => ?_, fun h7 => ?_⟩
        ·have hdo : doE h (actD d h) = takeOf h := by rw [hact]; simp [doE, h7]
         repeat first|refine n1 ?_|(refine rg 28 [0, 1] [1, 7, 9] [] ?_;simp (maxSteps := 1000000) [hF])
         refine (take_ok h k hql).go [(0, [])] (by simp (maxSteps := 1000000) [hF, eHp, eHb, dHp]) ?_;rintro av X κ ⟨rfl, rfl, rfl⟩;simp (maxSteps := 1000000) [hF, eHp, eHb, dHp]
         repeat first|(refine rg 29 [1, 7, 9] [7, 8, 9, 10] [] ?_;simp (maxSteps := 1000000) [hF])
         refine (etake_ok h hql).go [(1, [])] (by simp (maxSteps := 1000000) [hF, eHp, eHb]) ?_;rintro av X κ ⟨rfl, rfl, rfl⟩;simp (maxSteps := 1000000) [hF, eHp, eHb]
         repeat first|refine n1 ?_|refine n4 ?_|(refine rg 30 [7, 8, 9, 10] [6] [(3, 142)] ?_;simp (maxSteps := 1000000) [hF])
         refine VS.widen [(0, [.d]), (1, [.d])] (by simp [covers, mpre]) ?_
         (try refine nr ?_);(repeat first|refine nb_ ?_|refine nl_ ?_);refine endK.o [6] [0, 1] [(0, [.d]), (1, [.d])] ?_;simp [hF, retK, covers, mpre, eHp, eHb, dHp, hdo]
        ·have hdo : doE h (actD d h) = (h, 0, 0) := by rw [hact]; simp [doE, h0, h1, h2, h3, h4, h5, h6, h7]
         repeat first|refine n1 ?_|refine n2 ?_|refine n4 ?_|(refine rg 30 [7, 8, 9, 10] [6] [(3, 142)] ?_;simp (maxSteps := 1000000) [hF])
         refine VS.widen [(0, [.d]), (1, [.d])] (by simp [covers, mpre]) ?_
         (try refine nr ?_);(repeat first|refine nb_ ?_|refine nl_ ?_);refine endK.o [6] [0, 1] [(0, [.d]), (1, [.d])] ?_;simp [hF, retK, covers, mpre, eHp, eHb, dHp, hdo]
/-- Deeds at a heap. -/
def runL (h : Hp) (l : List Hd) : Hp := l.foldl (fun h d => (doE h (actD d h)).1) h
theorem runL_snoc (h : Hp) (l : List Hd) (d : Hd) : runL h (l ++ [d]) = (doE (runL h l) (actD d (runL h l))).1 := by simp [runL]
theorem fit_run {n : Nat} {h : Hp} (f : Fit n h) (l : List Hd) : Fit (n + l.length) (runL h l) := by
 induction l generalizing n h with
 | nil => exact f
 | cons d l ih =>
  have := ih (fit_do f (actD d h))
  rw [show n + (d :: l).length = n + 1 + l.length from by simp; omega]
  exact this
def playedOf (nn : Int) (L : List Hd) : Hp := runL (bornOf (roomY nn) (roomO nn)) (L.take 100)
theorem fit_runs {nn : Int} (L : List Hd) (i : Nat) (hi : i ≤ 100) : Fit 100 (runL (bornOf (roomY nn) (roomO nn)) (L.take i)) :=
 fit_mono (fit_run (fit_born (roomY_in nn) (roomO_in nn)) (L.take i)) (by rw [List.length_take]; omega)
theorem fit_played (nn : Int) (L : List Hd) : Fit 100 (playedOf nn L) := fit_runs L 100 (by omega)

attribute [simp high] head_dHp head_eHp
@[simp high] theorem node_dHp (h : Hp) : isNode (dHp h) = true := rfl
@[simp high] theorem node_eHp (h : Hp) : isNode (eHp h) = true := rfl
theorem take_snoc {l : List Hd} {i : Nat} (h : i < l.length) : l.take (i + 1) = l.take i ++ [l[i]] := by rw [List.take_add_one, List.getElem?_eq_getElem h]; rfl
/- cabochon/cabochonlaw27.played -/
theorem played_ok (nn : Int) (L : List Hd) (ex : Bool) : Meets Try.prog 10 [] (.cons (avInt nn) (.cons (.imm 5 (dLds L) ex) .nil))
  fun av X κ => av = .tup (.cons (.ptr 0 [.d]) (.cons (.ptr 1 [.d]) (.cons (avBool true) .nil))) ∧ X = [dHp (playedOf nn L), eHp (playedOf nn L)] ∧ κ = [] := by
 have hY := roomY_in nn
 have hO := roomO_in nn
 refine fb Try.func10 Try.ntmps10 [.tmp 4, .tmp 5, .tmp 6] fun w0 I0 F0 hF => ?_
 repeat first|refine n1 ?_|((first|refine rg 0 [0, 1] [0, 1] [] ?_|refine rg 1 [0, 1] [1, 7, 8] [] ?_);simp (maxSteps := 1000000) [hF])
 refine (rooms_ok nn).go [] (by simp (maxSteps := 1000000) [hF]) ?_;rintro av X κ ⟨rfl, rfl, rfl⟩;simp (maxSteps := 1000000) [hF]
 repeat first|refine n1 ?_|(refine rg 2 [1, 7, 8] [1, 7, 8, 9, 10] [] ?_;simp (maxSteps := 1000000) [hF])
 refine (new_ok (roomY nn) (roomO nn) hY hO).go [] (by simp (maxSteps := 1000000) [hF]) ?_;rintro av X κ ⟨rfl, rfl, rfl⟩;simp (maxSteps := 1000000) [hF]
 repeat first|refine n1 ?_|(refine rg 3 [1, 7, 8, 9, 10] [1, 9, 10, 11, 12] [] ?_;simp (maxSteps := 1000000) [hF])
 refine (enew_ok (roomY nn) (roomO nn) hY hO).go [] (by simp (maxSteps := 1000000) [hF]) ?_;rintro av X κ ⟨rfl, rfl, rfl⟩;simp (maxSteps := 1000000) [hF]
 repeat first|refine n1 ?_|refine n2 ?_|refine n3 ?_|((first|refine rg 4 [1, 9, 10, 11, 12] [1, 9, 11, 37] [(2, 33)] ?_|refine rg 6 [1, 9, 11] [1, 9, 11, 13] [] ?_|refine nc ?_);simp (maxSteps := 1000000) [hF])
 refine VS.rounds (fun m st => ∃ (i : Nat), i + m = L.length ∧ i ≤ 100 ∧ st = ⟨[(1, .imm 5 (dLds L) ex), (9, .ptr 0 [.d]), (11, .ptr 1 [.d]), (13, avInt i)], [dHp (runL (bornOf (roomY nn) (roomO nn)) (L.take i)), eHp (runL (bornOf (roomY nn) (roomO nn)) (L.take i))], [], []⟩) ⟨L.length, 0, by omega, by omega, by simp [runL]⟩ ?_
 rintro m st ⟨i, hi, hi100, rfl⟩
 have hf := fit_runs (nn := nn) L i hi100
 have hend : (L.length ≤ i ∨ i = 100) → playedOf nn L = runL (bornOf (roomY nn) (roomO nn)) (L.take i) := by
  rintro (hl | rfl)
  ·rw [playedOf, List.take_of_length_le hl, List.take_of_length_le (by omega)]
  ·rfl
 repeat first|refine n1 ?_|(refine rg 7 [1, 9, 11, 13] [1, 9, 11, 13, 45] [(4, 42)] ?_;simp (maxSteps := 1000000) [hF])
 refine ⟨fun hlt => ?_, fun hge => ?_⟩
 ·repeat first|(refine nc ?_;simp (maxSteps := 1000000) [hF])
  refine ⟨fun h90 => ?_, fun h90 => ?_⟩
  ·have hlt' : i < L.length := by omega
   have hn1 := dLds_nth hlt'
   have hw : IntKind.i64.wrap ((i : Int) + 1) = (i + 1 : Nat) := by rw [IntWalk.i64_in _ (by omega)]; rfl
   have hs := runL_snoc (bornOf (roomY nn) (roomO nn)) (L.take i) L[i]
   rw [← take_snoc hlt'] at hs
   generalize hH : runL (bornOf (roomY nn) (roomO nn)) (L.take i) = H at *
   repeat first|refine n1 ?_|refine n2 ?_|refine n3 ?_|(refine rg 9 [1, 9, 11, 13] [1, 9, 11, 13, 55] [] ?_;simp (maxSteps := 1000000) [hF, hn1, hlt'])
   refine (does_ok hf (by omega) L[i]).go [(0, []), (1, [])] (by simp (maxSteps := 1000000) [hF, avLd, dHp, eHp]) ?_;rintro av X κ ⟨rfl, rfl, rfl⟩;simp (maxSteps := 1000000) [hF, avLd, dHp, eHp]
   repeat first|refine n2 ?_|refine n4 ?_|refine n5 ?_|refine n6 ?_|((first|refine rg 8 [1, 9, 11, 13] [1, 9, 11, 13] [] ?_|refine nc ?_);simp (maxSteps := 1000000) [hF, hw])
   refine nextK.of [1, 9, 11, 13] [0, 1] (m - 1) (by omega) (by simp [hF]) ?_
   exact ⟨i + 1, by omega, by omega, by simp [hs, dHp, eHp]⟩
  ·have he := hend (.inr (by omega))
   repeat first|refine n1 ?_|refine n7 ?_|(refine rg 11 [9, 11] [4, 5, 6] [] ?_;simp (maxSteps := 1000000) [hF])
   (try refine nr ?_);(repeat first|refine nb_ ?_|refine nl_ ?_);refine endK.o [4, 5, 6] [0, 1] [] ?_;simp [hF, retK, covers, mpre, he]
 ·have he := hend (.inl (by omega))
  repeat first|refine n1 ?_|refine n7 ?_|((first|refine rg 11 [9, 11] [4, 5, 6] [] ?_|refine nc ?_);simp (maxSteps := 1000000) [hF])
  (try refine nr ?_);(repeat first|refine nb_ ?_|refine nl_ ?_);refine endK.o [4, 5, 6] [0, 1] [] ?_;simp [hF, retK, covers, mpre, he]
/-- A deed of Play. -/
structure Id4 where
 d : Int
 a : Int
 b : Int
 c : Int
def dId (d : Id4) : D := .agg (.cons (.val (.int .i64 d.d)) (.cons (.val (.int .i64 d.a)) (.cons (.val (.int .i64 d.b)) (.cons (.val (.int .i64 d.c)) .nil))))
def dIds (l : List Id4) : D := sq (l.map dId)
@[simp] theorem dIds_len (l : List Id4) : (dIds l).len = l.length := by simp [dIds]
@[simp] theorem dIds_free (l : List Id4) : (dIds l).free = true := sq_free fun x hx => by obtain ⟨n, _, rfl⟩ := List.mem_map.1 hx; simp [dId]
theorem dIds_nth {l : List Id4} {i : Nat} (h : i < l.length) : (dIds l).nth i = .agg (.cons (.val (.int .i64 l[i].d)) (.cons (.val (.int .i64 l[i].a)) (.cons (.val (.int .i64 l[i].b)) (.cons (.val (.int .i64 l[i].c)) .nil)))) := by
 rw [dIds, sq_nth_lt (by simpa using h)]; simp; rfl
def pd (h : Hp) (d : Id4) : Hp := (doP h d.d d.a d.b d.c).1
def pt (h : Hp) (d : Id4) : Int := tellP h d.d d.a d.b d.c
def heapP (h : Hp) (L : List Id4) : Hp := L.foldl pd h
def tolds : Hp → List Id4 → List Int
 | _, [] => []
 | h, d :: l => pt h d :: tolds (pd h d) l
theorem tolds_len : ∀ (h : Hp) (L : List Id4), (tolds h L).length = L.length
 | _, [] => rfl
 | h, d :: l => by rw [tolds, List.length_cons, tolds_len, List.length_cons]
theorem tolds_app (d : Id4) : ∀ (h : Hp) (L : List Id4), tolds h (L ++ [d]) = tolds h L ++ [pt (heapP h L) d]
 | _, [] => rfl
 | h, e :: l => by rw [List.cons_append, tolds, tolds_app d _ l, tolds, List.cons_append]; rfl
theorem heapP_app (d : Id4) (h : Hp) (L : List Id4) : heapP h (L ++ [d]) = pd (heapP h L) d := by rw [heapP, List.foldl_append]; rfl
theorem tolds_at {h : Hp} {L : List Id4} {k : Nat} (hk : k < L.length) : (tolds h L)[k]'(by rw [tolds_len]; exact hk) = pt (heapP h (L.take k)) L[k] := by
 induction L generalizing h k with
 | nil => simp at hk
 | cons d l ih =>
  cases k with
  | zero => simp [tolds, heapP]
  | succ k =>
   have := ih (h := pd h d) (k := k) (by simpa using hk)
   simp only [tolds, List.getElem_cons_succ, List.take_succ_cons]
   rw [this]; rfl
theorem doP_small (h : Hp) (d a b c : Int) : Small (doP h d a b c).2.2 := by
 have h0 : Small 0 := ⟨by omega, by omega⟩
 rw [doP]
 split
 ·rw [doE]
  repeat' split
  all_goals first | exact make_small h _ | exact set_small h _ _ _ | exact roots_small h _ | exact h0 | exact weak_small h _ _ | exact final_small h _ _ | exact take_small h
 ·exact h0
/- cabochon/heap.Play -/
theorem play_bad (a b : Int) (L : List Id4) (ex : Bool) (hb : ¬ ((8 ≤ a ∧ a ≤ 1000) ∧ 8 ≤ b ∧ b ≤ 1000) ∨ 300 < L.length) : Meets Try.prog 30 [] (.cons (avInt a) (.cons (avInt b) (.cons (.imm 4 (dIds L) ex) .nil))) fun av X κ => av = avTwo (.nils 1) 1 ∧ X = [] ∧ κ = [] := by
 by_cases hv : ((8 ≤ a ∧ a ≤ 1000) ∧ 8 ≤ b ∧ b ≤ 1000)
 ·have hL : 300 < L.length := by rcases hb with hb | hb; exact absurd hv hb; exact hb
  have hLi : ¬ (L.length : Int) ≤ 300 := by omega
  have hLi2 : (300 : Int) < L.length := by omega
  refine fb Try.func30 Try.ntmps30 [.tmp 6, .tmp 7] fun w0 I0 F0 hF => ?_
  repeat first|refine n1 ?_|((first|refine rg 0 [0, 1, 2] [0, 1, 2] [] ?_|refine rg 1 [0, 1, 2] [2, 8, 9] [] ?_);simp (maxSteps := 1000000) [hF])
  refine (new_ok a b hv.1 hv.2).go [] (by simp (maxSteps := 1000000) [hF]) ?_;rintro av X κ ⟨rfl, rfl, rfl⟩;simp (maxSteps := 1000000) [hF]
  repeat first|refine n1 ?_|((first|refine rg 2 [2, 8, 9] [2, 8, 27] [(2, 23)] ?_|refine rg 3 [] [6, 7] [] ?_|refine nc ?_);simp (maxSteps := 1000000) [hF, hL, hLi, hLi2])
  (try refine nr ?_);(repeat first|refine nb_ ?_|refine nl_ ?_);refine endK.o [6, 7] [] [] ?_;simp [hF, retK, covers, mpre]
 ·refine fb Try.func30 Try.ntmps30 [.tmp 6, .tmp 7] fun w0 I0 F0 hF => ?_
  repeat first|refine n1 ?_|((first|refine rg 0 [0, 1, 2] [0, 1, 2] [] ?_|refine rg 1 [0, 1, 2] [2, 8, 9] [] ?_);simp (maxSteps := 1000000) [hF])
  refine (new_bad a b hv).go [] (by simp (maxSteps := 1000000) [hF]) ?_;rintro av X κ ⟨rfl, rfl, rfl⟩;simp (maxSteps := 1000000) [hF]
  repeat first|refine n1 ?_|((first|refine rg 2 [2, 8, 9] [2, 8, 27] [(2, 23)] ?_|refine rg 3 [] [6, 7] [] ?_|refine nc ?_);simp (maxSteps := 1000000) [hF])
  (try refine nr ?_);(repeat first|refine nb_ ?_|refine nl_ ?_);refine endK.o [6, 7] [] [] ?_;simp [hF, retK, covers, mpre]
/- cabochon/heap.Play -/
theorem play_ok (a b : Int) (h1 : 8 ≤ a ∧ a ≤ 1000) (h2 : 8 ≤ b ∧ b ≤ 1000) (L : List Id4) (ex : Bool) (hL : L.length ≤ 300) : Meets Try.prog 30 [] (.cons (avInt a) (.cons (avInt b) (.cons (.imm 4 (dIds L) ex) .nil)))
  fun av X κ => av = avTwo (.sub 0 [] 0 L.length false) 0 ∧ X = [.sl true () 1 (dInts (tolds (bornOf a b) L))] ∧ κ = [] := by
 have hLi : (L.length : Int) ≤ 300 := by omega
 have hLi2 : ¬ (300 : Int) < L.length := by omega
 have hL2 : ¬ 300 < L.length := by omega
 refine fb Try.func30 Try.ntmps30 [.tmp 6, .tmp 7] fun w0 I0 F0 hF => ?_
 repeat first|refine n1 ?_|((first|refine rg 0 [0, 1, 2] [0, 1, 2] [] ?_|refine rg 1 [0, 1, 2] [2, 8, 9] [] ?_);simp (maxSteps := 1000000) [hF])
 refine (new_ok a b h1 h2).go [] (by simp (maxSteps := 1000000) [hF]) ?_;rintro av X κ ⟨rfl, rfl, rfl⟩;simp (maxSteps := 1000000) [hF]
 repeat first|refine n1 ?_|refine n2 ?_|refine n3 ?_|((first|refine rg 2 [2, 8, 9] [2, 8, 27] [(2, 23)] ?_|refine rg 4 [2, 8] [2, 8, 10] [] ?_|refine rg 5 [2, 8, 10] [8, 10, 28, 29, 30] [] ?_|refine nc ?_);simp (maxSteps := 1000000) [hF, hLi, hLi2, hL2])
 refine VS.hold0 10 1 (by simp) ?_
 generalize hK : VS _ _ _ = KK; simp; (try subst hK)
 refine VS.pick [8, 10, 28, 29, 30] [0, 1] (by simp [hF]) ?_;simp [hF]
 refine VS.rounds (fun m st => ∃ (i : Nat) (h : Hp) (P : List Int), i + m = L.length ∧ h = heapP (bornOf a b) (L.take i) ∧ Fit i h ∧ P = tolds (bornOf a b) (L.take i) ∧ st = ⟨[(8, .ptr 0 [.d]), (10, .sub 1 [] 0 P.length false), (28, .imm 4 (dIds L) ex), (29, avInt L.length), (30, avInt i)],
  [dHp h, .sl true () 1 (dInts P)], [], []⟩) ⟨L.length, 0, bornOf a b, [], by omega, by simp [heapP], fit_born h1 h2, by simp [tolds], by simp⟩ ?_
 rintro m st ⟨i, h, P, hi, hh, hf, hP, rfl⟩
 have hPl : P.length = i := by rw [hP, tolds_len, List.length_take]; omega
 repeat first|refine n1 ?_|((first|refine rg 6 [8, 10, 28, 29, 30] [8, 10, 28, 29, 30, 31] [] ?_|refine nc ?_);simp (maxSteps := 1000000) [hF])
 refine ⟨fun hlt => ?_, fun hge => ?_⟩
 ·have hlt' : i < L.length := by omega
  have hn1 := dIds_nth hlt'
  have htk : L.take (i + 1) = L.take i ++ [L[i]] := by rw [List.take_add_one, List.getElem?_eq_getElem hlt']; rfl
  have hh' : pd h L[i] = heapP (bornOf a b) (L.take (i + 1)) := by rw [htk, heapP_app, ← hh]
  have hP' : P ++ [pt h L[i]] = tolds (bornOf a b) (L.take (i + 1)) := by rw [htk, tolds_app, ← hP, ← hh]
  have hw : IntKind.i64.wrap ((i : Int) + 1) = (i + 1 : Nat) := by rw [IntWalk.i64_in _ (by omega)]; rfl
  have hp := dInts_app1 P
  have hm1 : ∀ z : Int, (dInts (P ++ [z])).mid 0 (P.length + 1) = dInts (P ++ [z]) := fun z => sq_mid_all _ _ (by simp)
  have hm0 : (dInts P).mid 0 P.length = dInts P := by simp
  have c1 : (P.length + 1) * 8 ≤ 140737488355328 := by omega
  have c2 : P.length ≤ 9223372036854775806 := by omega
  have hf' : Fit (i + 1) (pd h L[i]) := fit_doP hf _ _ _ _
  have hsm := doP_small h L[i].d L[i].a L[i].b L[i].c
  have hw9 : IntKind.i64.wrap (-(doP h L[i].d L[i].a L[i].b L[i].c).2.2) = -(doP h L[i].d L[i].a L[i].b L[i].c).2.2 := IntWalk.i64_in _ (by have := hsm.1; have := hsm.2; omega)
  unfold pd at hf' hh'
  repeat first|refine n1 ?_|refine n2 ?_|refine n3 ?_|((first|refine rg 7 [8, 10, 28, 29, 30] [8, 10, 12, 28, 29, 30] [] ?_|refine rg 8 [8, 10, 12, 28, 29, 30] [8, 10, 13, 14, 28, 29, 30] [] ?_);simp (maxSteps := 1000000) [hF, hn1, hlt'])
  refine (do_ok h i hf (by omega) L[i].d L[i].a L[i].b L[i].c).go [(0, [])] (by simp (maxSteps := 1000000) [hF, dHp]) ?_;rintro av X κ ⟨rfl, rfl, rfl⟩;simp (maxSteps := 1000000) [hF, dHp]
  by_cases hz : (doP h L[i].d L[i].a L[i].b L[i].c).2.2 = 0
  ·have hz' : ((doP h L[i].d L[i].a L[i].b L[i].c).2.2 = 0) = True := by simp [hz]
   have ht : pt h L[i] = (doP h L[i].d L[i].a L[i].b L[i].c).2.1 := by rw [pt, tellP, if_pos hz]
   rw [ht] at hP'
   repeat first|refine n1 ?_|refine n2 ?_|refine n4 ?_|refine n5 ?_|refine n6 ?_|((first|refine rg 9 [8, 10, 13, 14, 28, 29, 30] [8, 10, 13, 14, 28, 29, 30, 41] [] ?_|refine rg 11 [8, 10, 13, 28, 29, 30] [8, 10, 28, 29, 30] [] ?_|refine rg 12 [8, 10, 28, 29, 30] [8, 10, 28, 29, 30] [] ?_|refine nc ?_);simp (maxSteps := 1000000) [hF, hz', hp, hm1, hm0, c1, c2, hw])
   refine nextK.of [8, 10, 28, 29, 30] [0, 1] (m - 1) (by omega) (by simp [hF]) ?_
   exact ⟨i + 1, _, _, by omega, hh', hf', hP', by simp [dHp]⟩
  ·have hz' : ((doP h L[i].d L[i].a L[i].b L[i].c).2.2 = 0) = False := by simp [hz]
   have ht : pt h L[i] = -(doP h L[i].d L[i].a L[i].b L[i].c).2.2 := by rw [pt, tellP, if_neg hz]
   rw [ht] at hP'
   repeat first|refine n1 ?_|refine n4 ?_|refine n5 ?_|refine n6 ?_|((first|refine rg 9 [8, 10, 13, 14, 28, 29, 30] [8, 10, 13, 14, 28, 29, 30, 41] [] ?_|refine rg 10 [8, 10, 14, 28, 29, 30] [8, 10, 13, 28, 29, 30] [] ?_|refine rg 11 [8, 10, 13, 28, 29, 30] [8, 10, 28, 29, 30] [] ?_|refine rg 12 [8, 10, 28, 29, 30] [8, 10, 28, 29, 30] [] ?_|refine nc ?_);simp (maxSteps := 1000000) [hF, hz', hp, hm1, hm0, c1, c2, hw, hw9])
   refine nextK.of [8, 10, 28, 29, 30] [0, 1] (m - 1) (by omega) (by simp [hF]) ?_
   exact ⟨i + 1, _, _, by omega, hh', hf', hP', by simp [dHp]⟩
 ·have hil : i = L.length := by omega
  rw [hil, List.take_length] at hP
  repeat first|refine n1 ?_|refine n7 ?_|(refine rg 13 [10] [6, 7] [] ?_;simp (maxSteps := 1000000) [hF])
  (try refine nr ?_);(repeat first|refine nb_ ?_|refine nl_ ?_);refine endK.o [6, 7] [1] [] ?_;simp [hF, retK, covers, mpre, hP, tolds_len]
end Go.Proofs.Ytfdcfjjobdnofaa

/- The arguments of the laws: numbers, deeds. -/
namespace Go.Proofs.Ytfdcfjjobdnofaa
set_option linter.all false
open Go.Vc Go.Proofs Go
set_option maxRecDepth 100000

theorem map_ints {l : List D} (h : ∀ x ∈ l, ∃ n, x = .val (.int .i64 n)) : ∃ ys : List Int, sq l = dInts ys := by
  obtain ⟨ys, rfl⟩ := map_of (f := fun n => (.val (.int .i64 n) : D)) h
  exact ⟨ys, rfl⟩
theorem reads_ld : Reads Try.prog 47 5 fun d => ∃ x, d = dLd x := by
  have h := reads_struct (gs := [(1, fun d => ∃ n, d = .val (.int .i64 n)), (1, fun d => ∃ n, d = .val (.int .i64 n)), (1, fun d => ∃ n, d = .val (.int .i64 n)), (1, fun d => ∃ n, d = .val (.int .i64 n)),
      (1, fun d => ∃ l : List D, (∀ x ∈ l, ∃ n, x = .val (.int .i64 n)) ∧ l.length ≤ 2 ^ 63 - 1 ∧ d = .sl false () 1 (sq l))]) Try.underlying47
    ⟨reads_int Try.underlying3, by kernel_rfl, rfl, reads_int Try.underlying3, by kernel_rfl, rfl, reads_int Try.underlying3, by kernel_rfl, rfl, reads_int Try.underlying3, by kernel_rfl, rfl,
      reads_slice Try.underlying23 (reads_int Try.underlying3) (by kernel_rfl) (by omega), by kernel_rfl, rfl, trivial⟩ (by kernel_rfl)
  refine fun H enc w fuel cs x hx => ?_
  obtain ⟨g, h1, h2, h3, h4, s, h5, a1, t1, rfl, ⟨n1, rfl⟩, a2, t2, rfl, ⟨n2, rfl⟩, a3, t3, rfl, ⟨n3, rfl⟩, a4, t4, rfl, ⟨n4, rfl⟩, a6, t6, rfl, ⟨l, hl, _, rfl⟩, rfl⟩ := h H enc w fuel cs x hx
  obtain ⟨ys, e⟩ := map_ints hl
  exact ⟨g, h1, h2, h3, h4, ⟨n1, n2, n3, n4, ys⟩, by rw [h5, e]; rfl⟩
theorem reads_id : Reads Try.prog 61 4 fun d => ∃ x, d = dId x := by
  have h := reads_struct (gs := [(1, fun d => ∃ n, d = .val (.int .i64 n)), (1, fun d => ∃ n, d = .val (.int .i64 n)), (1, fun d => ∃ n, d = .val (.int .i64 n)), (1, fun d => ∃ n, d = .val (.int .i64 n))]) Try.underlying61
    ⟨reads_int Try.underlying3, by kernel_rfl, rfl, reads_int Try.underlying3, by kernel_rfl, rfl, reads_int Try.underlying3, by kernel_rfl, rfl, reads_int Try.underlying3, by kernel_rfl, rfl, trivial⟩ (by kernel_rfl)
  refine fun H enc w fuel cs x hx => ?_
  obtain ⟨g, h1, h2, h3, h4, s, h5, a1, t1, rfl, ⟨n1, rfl⟩, a2, t2, rfl, ⟨n2, rfl⟩, a3, t3, rfl, ⟨n3, rfl⟩, a4, t4, rfl, ⟨n4, rfl⟩, rfl⟩ := h H enc w fuel cs x hx
  exact ⟨g, h1, h2, h3, h4, ⟨n1, n2, n3, n4⟩, h5⟩
section
variable {H : Type} {enc : TypeId × Value → H} {w : World} {r : Go.Reach} {b0 : Nat} {v : Value} {d : DataW H} {ps : List MemPlace}
theorem int_of (hv : Value.okWide Try.prog w r b0 3 v) (h : DataW.Trod enc Try.prog w 0 (fun _ => true) true 3 v d ps) :
    ∃ n : Int, Rl w.heap (allB w) [] (.val (.int .i64 n)) true [v] := by
  obtain ⟨n, rfl, _⟩ := ChangeShapes.open_int Try.underlying3 hv h
  exact ⟨n, rfl, rfl⟩
theorem ints_of (hv : Value.okWide Try.prog w r b0 23 v) (h : DataW.Trod enc Try.prog w 0 (fun _ => true) true 23 v d ps) :
    ∃ l : List Int, l.length ≤ 2 ^ 63 - 1 ∧ Rl w.heap (allB w) [] (.imm 1 (dInts l) false) true [v] := by
  obtain ⟨l, h1, h2, h3⟩ := imm_of_trod (z := 1) Try.underlying23 (reads_int Try.underlying3) (by kernel_rfl) (by omega) hv h
  obtain ⟨ys, rfl⟩ := map_of (f := fun n => (.val (.int .i64 n) : D)) h1
  exact ⟨ys, by simpa using h2, h3⟩
theorem deeds_of (hv : Value.okWide Try.prog w r b0 22 v) (h : DataW.Trod enc Try.prog w 0 (fun _ => true) true 22 v d ps) :
    ∃ l : List Hd, l.length ≤ 2 ^ 63 - 1 ∧ Rl w.heap (allB w) [] (.imm 5 (dLds l) false) true [v] := by
  obtain ⟨l, h1, h2, h3⟩ := imm_of_trod (z := 5) Try.underlying22 reads_ld (by kernel_rfl) (by omega) hv h
  obtain ⟨ys, rfl⟩ := map_of h1
  exact ⟨ys, by simpa using h2, h3⟩
theorem ideeds_of (hv : Value.okWide Try.prog w r b0 51 v) (h : DataW.Trod enc Try.prog w 0 (fun _ => true) true 51 v d ps) :
    ∃ l : List Id4, l.length ≤ 2 ^ 63 - 1 ∧ Rl w.heap (allB w) [] (.imm 4 (dIds l) false) true [v] := by
  obtain ⟨l, h1, h2, h3⟩ := imm_of_trod (z := 4) Try.underlying51 reads_id (by kernel_rfl) (by omega) hv h
  obtain ⟨ys, rfl⟩ := map_of h1
  exact ⟨ys, by simpa using h2, h3⟩
end
end Go.Proofs.Ytfdcfjjobdnofaa
