/- What the program does with a book: Into. -/
import Derived.Test.YtipokdbfdingmaaK6
import Derived.Test.YtipokdbfdingmaaK5
import Derived.ChangeMaps5
namespace Go.Proofs.Ytipokdbfdingmaa
set_option linter.all false
open Go.Vc Go.Proofs
set_option linter.unusedSimpArgs false
set_option linter.unusedVariables false
set_option maxRecDepth 100000
set_option maxHeartbeats 4000000
attribute [local irreducible] CallW EqK
theorem into_c {n : Nat} (g : Gb) (b : Bk n g) (u o : Int) : Meets Try.prog 13 [dBk g] (.cons (.ptr 0 [.d]) (.cons (avInt u) (.cons (avInt o) .nil)))
  fun av X κ => av = avInt (intoOf g u o).2 ∧ X = [dBk (intoOf g u o).1] ∧ κ = [(0, [.d])] := by
 cases hh : hasB g u with
 | false =>
  have hc : intoOf g u o = (g, 1) := by simp [intoOf, hh]
  refine fb Try.func13 Try.ntmps13 [.tmp 6] fun w0 I0 F0 hF => ?_
  repeat first|refine n1 ?_|refine n3 ?_|((first|refine rg 0 [0, 1, 2] [0, 1, 2] [] ?_|refine rg 1 [0, 1, 2] [0, 1, 2, 8] [(4, 13)] ?_);simp (maxSteps := 1000000) [hF, dBk])
  refine (has_c g u).go [(0, [])] (by simp (maxSteps := 1000000) [hF, dBk, hh]) ?_;rintro av X κ ⟨rfl, rfl, rfl⟩;simp (maxSteps := 1000000) [hF, dBk, hh]
  repeat first|refine n1 ?_|((first|refine rg 2 [] [6] [] ?_|refine nc ?_);simp (maxSteps := 1000000) [hF])
  refine VS.widen [(0, [.d])] (by simp [covers, mpre]) ?_
  (try refine nr ?_);(repeat first|refine nb_ ?_|refine nl_ ?_);refine endK.o [6] [0] [(0, [.d])] ?_;simp [hF, retK, covers, mpre, dBk, hc]
 | true =>
  cases hh2 : hasB g o with
  | false =>
   have hc : intoOf g u o = (g, 1) := by simp [intoOf, hh2]
   refine fb Try.func13 Try.ntmps13 [.tmp 6] fun w0 I0 F0 hF => ?_
   repeat first|refine n1 ?_|refine n3 ?_|((first|refine rg 0 [0, 1, 2] [0, 1, 2] [] ?_|refine rg 1 [0, 1, 2] [0, 1, 2, 8] [(4, 13)] ?_);simp (maxSteps := 1000000) [hF, dBk])
   refine (has_c g u).go [(0, [])] (by simp (maxSteps := 1000000) [hF, dBk, hh]) ?_;rintro av X κ ⟨rfl, rfl, rfl⟩;simp (maxSteps := 1000000) [hF, dBk, hh]
   refine (has_c g o).go [(0, [])] (by simp (maxSteps := 1000000) [hF, dBk, hh2]) ?_;rintro av X κ ⟨rfl, rfl, rfl⟩;simp (maxSteps := 1000000) [hF, dBk, hh2]
   repeat first|refine n1 ?_|((first|refine rg 2 [] [6] [] ?_|refine nc ?_);simp (maxSteps := 1000000) [hF])
   refine VS.widen [(0, [.d])] (by simp [covers, mpre]) ?_
   (try refine nr ?_);(repeat first|refine nb_ ?_|refine nl_ ?_);refine endK.o [6] [0] [(0, [.d])] ?_;simp [hF, retK, covers, mpre, dBk, hc]
  | true =>
   obtain ⟨i, hi, rfl, hu, _⟩ := unOf_mem hh
   obtain ⟨j, hj, rfl, ho, _⟩ := unOf_mem hh2
   have hn := dUns_nth (o := true) hi
   have hn2 := dUns_nth (o := true) hj
   have hii : (i : Int) < g.units.length := by omega
   have hjj : (j : Int) < g.units.length := by omega
   cases hup : g.units[i].up with
   | false =>
    have hc : intoOf g i j = (g, 8) := by simp [intoOf, hh, hh2, hu, hup]
    refine fb Try.func13 Try.ntmps13 [.tmp 6] fun w0 I0 F0 hF => ?_
    repeat first|refine n1 ?_|refine n3 ?_|((first|refine rg 0 [0, 1, 2] [0, 1, 2] [] ?_|refine rg 1 [0, 1, 2] [0, 1, 2, 8] [(4, 13)] ?_);simp (maxSteps := 1000000) [hF, dBk])
    refine (has_c g i).go [(0, [])] (by simp (maxSteps := 1000000) [hF, dBk, hh]) ?_;rintro av X κ ⟨rfl, rfl, rfl⟩;simp (maxSteps := 1000000) [hF, dBk, hh]
    refine (has_c g j).go [(0, [])] (by simp (maxSteps := 1000000) [hF, dBk, hh2]) ?_;rintro av X κ ⟨rfl, rfl, rfl⟩;simp (maxSteps := 1000000) [hF, dBk, hh2]
    repeat first|refine n1 ?_|((first|refine rg 3 [0, 1, 2] [0, 1, 2, 19] [(9, 29)] ?_|refine rg 4 [] [6] [] ?_|refine nc ?_);simp (maxSteps := 1000000) [hF, dBk, hn, hi, hii, hup])
    refine VS.widen [(0, [.d])] (by simp [covers, mpre]) ?_
    (try refine nr ?_);(repeat first|refine nb_ ?_|refine nl_ ?_);refine endK.o [6] [0] [(0, [.d])] ?_;simp [hF, retK, covers, mpre, dBk, hc]
   | true =>
    cases hup2 : g.units[j].up with
    | false =>
     have hc : intoOf g i j = (g, 8) := by simp [intoOf, hh, hh2, hu, ho, hup, hup2]
     refine fb Try.func13 Try.ntmps13 [.tmp 6] fun w0 I0 F0 hF => ?_
     repeat first|refine n1 ?_|refine n3 ?_|((first|refine rg 0 [0, 1, 2] [0, 1, 2] [] ?_|refine rg 1 [0, 1, 2] [0, 1, 2, 8] [(4, 13)] ?_);simp (maxSteps := 1000000) [hF, dBk])
     refine (has_c g i).go [(0, [])] (by simp (maxSteps := 1000000) [hF, dBk, hh]) ?_;rintro av X κ ⟨rfl, rfl, rfl⟩;simp (maxSteps := 1000000) [hF, dBk, hh]
     refine (has_c g j).go [(0, [])] (by simp (maxSteps := 1000000) [hF, dBk, hh2]) ?_;rintro av X κ ⟨rfl, rfl, rfl⟩;simp (maxSteps := 1000000) [hF, dBk, hh2]
     repeat first|refine n1 ?_|((first|refine rg 3 [0, 1, 2] [0, 1, 2, 19] [(9, 29)] ?_|refine rg 4 [] [6] [] ?_|refine nc ?_);simp (maxSteps := 1000000) [hF, dBk, hn, hi, hii, hup, hn2, hj, hjj, hup2])
     refine VS.widen [(0, [.d])] (by simp [covers, mpre]) ?_
     (try refine nr ?_);(repeat first|refine nb_ ?_|refine nl_ ?_);refine endK.o [6] [0] [(0, [.d])] ?_;simp [hF, retK, covers, mpre, dBk, hc]
    | true =>
     have h1 : dInts (nats [j]) = .cons (.val (.int .i64 j)) .nil := rfl
     have hil : i < (aboveOf g.units fun x => x = j).length := by simpa using hi
     have hbn := dBools_nth hil
     rw [aboveOf_at hi] at hbn
     have hsm := dUns_same (o := true) hi hup
     cases hr : rcB g.units (fun x => x = j) i with
     | true =>
      have hc : intoOf g i j = (g, 10) := by simp [intoOf, hh, hh2, hu, ho, hup, hup2, hr]
      refine fb Try.func13 Try.ntmps13 [.tmp 6] fun w0 I0 F0 hF => ?_
      repeat first|refine n1 ?_|refine n3 ?_|((first|refine rg 0 [0, 1, 2] [0, 1, 2] [] ?_|refine rg 1 [0, 1, 2] [0, 1, 2, 8] [(4, 13)] ?_);simp (maxSteps := 1000000) [hF, dBk])
      refine (has_c g i).go [(0, [])] (by simp (maxSteps := 1000000) [hF, dBk, hh]) ?_;rintro av X κ ⟨rfl, rfl, rfl⟩;simp (maxSteps := 1000000) [hF, dBk, hh]
      refine (has_c g j).go [(0, [])] (by simp (maxSteps := 1000000) [hF, dBk, hh2]) ?_;rintro av X κ ⟨rfl, rfl, rfl⟩;simp (maxSteps := 1000000) [hF, dBk, hh2]
      repeat first|refine n1 ?_|((first|refine rg 3 [0, 1, 2] [0, 1, 2, 19] [(9, 29)] ?_|refine rg 5 [0, 1, 2] [0, 1, 2, 40] [] ?_|refine nc ?_);simp (maxSteps := 1000000) [hF, dBk, hn, hi, hii, hup, hn2, hj, hjj, hup2])
      refine (above_1 g b true j hj).go [(1, []), (0, [])] (by simp (maxSteps := 1000000) [hF, dBk, h1, hbn, hi, hii, hr]) ?_;rintro av X κ ⟨rfl, rfl, rfl⟩;simp (maxSteps := 1000000) [hF, dBk, h1, hbn, hi, hii, hr]
      repeat first|refine n1 ?_|((first|refine rg 6 [] [6] [] ?_|refine nc ?_);simp (maxSteps := 1000000) [hF])
      refine VS.widen [(0, [.d])] (by simp [covers, mpre]) ?_
      (try refine nr ?_);(repeat first|refine nb_ ?_|refine nl_ ?_);refine endK.o [6] [0] [(0, [.d])] ?_;simp [hF, retK, covers, mpre, dBk, hc]
     | false =>
      have hinl := b.inLen i
      rw [innOf_at hi] at hinl
      by_cases hm : j ∈ g.units[i].inn
      ·have hc : intoOf g i j = (g, 0) := by simp [intoOf, hh, hh2, hu, ho, hup, hup2, hr, hm]
       have hmi : ((j : Int) ∈ nats g.units[i].inn) = True := eq_true (mem_nats.2 hm)
       refine fb Try.func13 Try.ntmps13 [.tmp 6] fun w0 I0 F0 hF => ?_
       repeat first|refine n1 ?_|refine n3 ?_|((first|refine rg 0 [0, 1, 2] [0, 1, 2] [] ?_|refine rg 1 [0, 1, 2] [0, 1, 2, 8] [(4, 13)] ?_);simp (maxSteps := 1000000) [hF, dBk])
       refine (has_c g i).go [(0, [])] (by simp (maxSteps := 1000000) [hF, dBk, hh]) ?_;rintro av X κ ⟨rfl, rfl, rfl⟩;simp (maxSteps := 1000000) [hF, dBk, hh]
       refine (has_c g j).go [(0, [])] (by simp (maxSteps := 1000000) [hF, dBk, hh2]) ?_;rintro av X κ ⟨rfl, rfl, rfl⟩;simp (maxSteps := 1000000) [hF, dBk, hh2]
       repeat first|refine n1 ?_|((first|refine rg 3 [0, 1, 2] [0, 1, 2, 19] [(9, 29)] ?_|refine rg 5 [0, 1, 2] [0, 1, 2, 40] [] ?_|refine nc ?_);simp (maxSteps := 1000000) [hF, dBk, hn, hi, hii, hup, hn2, hj, hjj, hup2])
       refine (above_1 g b true j hj).go [(1, []), (0, [])] (by simp (maxSteps := 1000000) [hF, dBk, h1, hbn, hi, hii, hr]) ?_;rintro av X κ ⟨rfl, rfl, rfl⟩;simp (maxSteps := 1000000) [hF, dBk, h1, hbn, hi, hii, hr]
       repeat first|refine n1 ?_|refine n2 ?_|refine n4 ?_|((first|refine rg 7 [0, 1, 2] [2, 7] [] ?_|refine rg 8 [2, 7] [2, 7, 60] [] ?_|refine nc ?_);simp (maxSteps := 1000000) [hF, dBk, hn, hi, hii, hup])
       refine (contains_c false (nats g.units[i].inn) j (by simp; omega)).go [(0, [.d, .f 0, .i i, .f 2])] (by simp (maxSteps := 1000000) [hF, dBk, hn, hi, hii, hup, hsm, hmi]) ?_;rintro av X κ ⟨rfl, rfl, rfl⟩;simp (maxSteps := 1000000) [hF, dBk, hn, hi, hii, hup, hsm, hmi]
       repeat first|refine n1 ?_|refine n2 ?_|((first|refine rg 10 [] [6] [] ?_|refine nc ?_);simp (maxSteps := 1000000) [hF])
       refine VS.widen [(0, [.d])] (by simp [covers, mpre]) ?_
       (try refine nr ?_);(repeat first|refine nb_ ?_|refine nl_ ?_);refine endK.o [6] [0] [(0, [.d])] ?_;simp [hF, retK, covers, mpre, dBk, hc, hsm]
      ·have hc : intoOf g i j = (setU g i { up := true, keys := g.units[i].keys, inn := g.units[i].inn ++ [j] }, 0) := by simp [intoOf, hh, hh2, hu, ho, hup, hup2, hr, hm]
       have hmi : ((j : Int) ∈ nats g.units[i].inn) = False := eq_false fun h => hm (mem_nats.1 h)
       have hset := dUns_set true g.units i true g.units[i].keys (g.units[i].inn ++ [j])
       rw [nats_snoc] at hset
       have c1 : (g.units[i].inn.length + 1) * 8 ≤ 140737488355328 := by omega
       have c2 : g.units[i].inn.length ≤ 9223372036854775806 := by omega
       refine fb Try.func13 Try.ntmps13 [.tmp 6] fun w0 I0 F0 hF => ?_
       repeat first|refine n1 ?_|refine n3 ?_|((first|refine rg 0 [0, 1, 2] [0, 1, 2] [] ?_|refine rg 1 [0, 1, 2] [0, 1, 2, 8] [(4, 13)] ?_);simp (maxSteps := 1000000) [hF, dBk])
       refine (has_c g i).go [(0, [])] (by simp (maxSteps := 1000000) [hF, dBk, hh]) ?_;rintro av X κ ⟨rfl, rfl, rfl⟩;simp (maxSteps := 1000000) [hF, dBk, hh]
       refine (has_c g j).go [(0, [])] (by simp (maxSteps := 1000000) [hF, dBk, hh2]) ?_;rintro av X κ ⟨rfl, rfl, rfl⟩;simp (maxSteps := 1000000) [hF, dBk, hh2]
       repeat first|refine n1 ?_|((first|refine rg 3 [0, 1, 2] [0, 1, 2, 19] [(9, 29)] ?_|refine rg 5 [0, 1, 2] [0, 1, 2, 40] [] ?_|refine nc ?_);simp (maxSteps := 1000000) [hF, dBk, hn, hi, hii, hup, hn2, hj, hjj, hup2])
       refine (above_1 g b true j hj).go [(1, []), (0, [])] (by simp (maxSteps := 1000000) [hF, dBk, h1, hbn, hi, hii, hr]) ?_;rintro av X κ ⟨rfl, rfl, rfl⟩;simp (maxSteps := 1000000) [hF, dBk, h1, hbn, hi, hii, hr]
       repeat first|refine n1 ?_|refine n2 ?_|refine n4 ?_|((first|refine rg 7 [0, 1, 2] [2, 7] [] ?_|refine rg 8 [2, 7] [2, 7, 60] [] ?_|refine nc ?_);simp (maxSteps := 1000000) [hF, dBk, hn, hi, hii, hup])
       refine (contains_c false (nats g.units[i].inn) j (by simp; omega)).go [(0, [.d, .f 0, .i i, .f 2])] (by simp (maxSteps := 1000000) [hF, dBk, hn, hi, hii, hup, hsm, hmi]) ?_;rintro av X κ ⟨rfl, rfl, rfl⟩;simp (maxSteps := 1000000) [hF, dBk, hn, hi, hii, hup, hsm, hmi]
       repeat first|((first|refine rg 9 [2, 7] [] [] ?_|refine nc ?_);simp (maxSteps := 1000000) [hF, dBk, hn, hi, hii, hup])
       refine (clone_c false (nats g.units[i].inn) (by simp; omega)).go [(0, [.d, .f 0, .i i, .f 2])] (by simp (maxSteps := 1000000) [hF, dBk, hn, hi, hii, hup, hsm, c1, c2, hset]) ?_;rintro av X κ ⟨rfl, rfl, rfl⟩;simp (maxSteps := 1000000) [hF, dBk, hn, hi, hii, hup, hsm, c1, c2, hset]
       repeat first|refine n1 ?_|(refine rg 10 [] [6] [] ?_;simp (maxSteps := 1000000) [hF])
       refine VS.widen [(0, [.d])] (by simp [covers, mpre]) ?_
       (try refine nr ?_);(repeat first|refine nb_ ?_|refine nl_ ?_);refine endK.o [6] [0] [(0, [.d])] ?_;simp [hF, retK, covers, mpre, dBk, hc, setU, hset]
def dUnsN (n : Nat) (l : List Un) : D := sq (l.mapIdx fun i x => dUn (decide (i < n)) x)
@[simp] theorem dUnsN_len (n : Nat) (l : List Un) : (dUnsN n l).len = l.length := by simp [dUnsN]
def dBj (g : Gb) : D := .box true () (.agg (.cons (.junk ()) (.cons (.map true () (dSer g.ser)) .nil)))
@[simp high] theorem head_dBj (g : Gb) : isHead (dBj g) = true := by rw [dBj, isHead]
@[simp] theorem own_dBj (g : Gb) : (dBj g).allOwn = true := by
 have h : (dSer g.ser).allOwn = true := own_sq fun x hx => by obtain ⟨c, _, rfl⟩ := List.mem_map.1 hx; rfl
 simp [dBj, T.allOwn, h]
def dUx (us : D) (g : Gb) : D := .box true () (.agg (.cons (.sl true () 3 us) (.cons (.map true () (dSer g.ser)) .nil)))
@[simp high] theorem head_dUx (us : D) (g : Gb) : isHead (dUx us g) = true := by rw [dUx, isHead]
end Go.Proofs.Ytipokdbfdingmaa

/- Books of grounds, plainly: the document's ways. -/
namespace Go.Proofs.Ytipokdbfdingmaa
set_option linter.all false
open Go.Vc Go.Proofs
structure Cm (us : List Un) (S : Nat → Prop) (M : List Bool) : Prop where
  len : M.length = us.length
  sub : ∀ x, M.getD x false = true → Rc us S x
  start : ∀ x, S x → M.getD x false = true
theorem Cm.begin {us : List Un} {S : Nat → Prop} {M : List Bool} (hl : M.length = us.length) (h : ∀ x, M.getD x false = true ↔ S x) : Cm us S M :=
  ⟨hl, fun x hx => .base ((h x).1 hx), fun x hx => (h x).2 hx⟩
def closedAt (us : List Un) (M : List Bool) (x : Nat) : Prop := M.getD x false = true → ∀ y ∈ innOf us x, M.getD y false = true
theorem Cm.mark {us : List Un} {S : Nat → Prop} {M : List Bool} (c : Cm us S M) {x y : Nat} (hx : M.getD x false = true) (hy : y ∈ innOf us x) (hyl : y < us.length) : Cm us S (M.set y true) := by
  have hl := c.len
  refine ⟨by rw [List.length_set, hl], fun z hz => ?_, fun z hz => ?_⟩
  · by_cases e : y = z
    · subst e; exact .step (c.sub x hx) hy
    · rw [getD_set_ne e] at hz; exact c.sub z hz
  · by_cases e : y = z
    · subst e; exact getD_set_self (by omega) true
    · rw [getD_set_ne e]; exact c.start z hz
theorem Cm.done {us : List Un} {S : Nat → Prop} {M : List Bool} (c : Cm us S M) (h : ∀ x, x < us.length → closedAt us M x) : M = aboveOf us S :=
  marks_eq c.len c.sub c.start fun x hx => by
    have hl := c.len
    refine h x ?_ hx
    rcases Nat.lt_or_ge x us.length with h1 | h1
    · exact h1
    · rw [List.getD_eq_getElem?_getD, List.getElem?_eq_none (by omega)] at hx; cases hx
theorem getD_at' {M : List Bool} {y : Nat} (h : M.getD y false = true) : y < M.length := by
  rcases Nat.lt_or_ge y M.length with h1 | h1
  · exact h1
  · rw [List.getD_eq_getElem?_getD, List.getElem?_eq_none h1] at h; cases h
@[simp] theorem serials_len (g : Gb) : (serials g).length = (movedOf g).length := by simp [serials]
end Go.Proofs.Ytipokdbfdingmaa

/- What the document asks of lists and of a book. -/
namespace Go.Proofs.Ytipokdbfdingmaa
set_option linter.all false
open Go.Vc Go.Proofs
set_option linter.unusedSimpArgs false
set_option linter.unusedVariables false
set_option maxRecDepth 100000
set_option maxHeartbeats 4000000
attribute [local irreducible] CallW EqK
def eBx (us : List Un) (mv : List ByteArray) (sr : List Int) : D := .box true () (.agg (.cons (.val (.bool true)) (.cons (.sl true () 3 (dUns true us)) (.cons (.sl true () 1 (strs mv)) (.cons (.sl true () 1 (dInts sr)) .nil)))))
theorem eBk_x (g : Gb) : eBk g = eBx g.units (movedOf g) (serials g) := rfl
@[simp high] theorem head_eBx (us : List Un) (mv : List ByteArray) (sr : List Int) : isHead (eBx us mv sr) = true := by rw [eBx, isHead]
end Go.Proofs.Ytipokdbfdingmaa

/- Books of grounds, plainly: deeds, one behind the other. -/
namespace Go.Proofs.Ytipokdbfdingmaa
set_option linter.all false
open Go.Vc Go.Proofs
structure Gd where
  d : Int
  u : Int
  o : Int
  k : ByteArray
  l : List ByteArray
noncomputable def doG (g : Gb) (x : Gd) : Gb × List Nat :=
  if x.d = 0 then ((unitOf g x.l).1, if (unitOf g x.l).2.2 = 0 then [g.units.length] else [])
  else if x.d = 1 then ((relyOf g x.u x.k).1, [])
  else if x.d = 2 then ((intoOf g x.u x.o).1, [])
  else if x.d = 3 then ((moveOf g x.k).1, (moveOf g x.k).2.1)
  else if x.d = 4 then ((renewOf g x.u x.l).1, [])
  else if x.d = 5 then ((dropOf g x.u).1, (dropOf g x.u).2.1)
  else (g, [])
theorem Fb.up {n : Nat} {g : Gb} (f : Fb n g) : Fb (n + 1) g := ⟨f.bk.up, f.nk⟩
theorem Fb.mono {n m : Nat} {g : Gb} (f : Fb n g) (h : n ≤ m) : Fb m g := by
  induction h with
  | refl => exact f
  | step _ ih => exact ih.up
theorem fb_do {n : Nat} {g : Gb} (f : Fb n g) (x : Gd) : Fb (n + 1) (doG g x).1 := by
  unfold doG
  repeat' split
  · exact Fb.up ⟨b_unit f.bk _, n_unit f.nk _⟩
  · exact Fb.up ⟨b_unit f.bk _, n_unit f.nk _⟩
  · exact Fb.up ⟨b_rely f.bk _ _, n_rely f.nk _ _⟩
  · exact Fb.up ⟨b_into f.bk _ _, n_into f.nk _ _⟩
  · exact ⟨b_move f.bk _, n_move f.nk _⟩
  · exact Fb.up ⟨b_renew f.bk _ _, n_renew f.nk _ _⟩
  · exact Fb.up ⟨b_drop f.bk _, n_drop f.nk _⟩
  · exact f.up
theorem fb_born : Fb 0 bornB := ⟨b_born, n_born⟩
noncomputable def bookG (g : Gb) (L : List Gd) : Gb := L.foldl (fun g x => (doG g x).1) g
theorem fb_book {n : Nat} {g : Gb} (f : Fb n g) (L : List Gd) : Fb (n + L.length) (bookG g L) := by
  induction L generalizing n g with
  | nil => exact f
  | cons x l ih =>
    have := ih (fb_do f x)
    rw [show n + (x :: l).length = n + 1 + l.length from by simp; omega]
    exact this
end Go.Proofs.Ytipokdbfdingmaa

/- Keys in lists; what the document does, told. -/
namespace Go.Proofs.Ytipokdbfdingmaa
set_option linter.all false
open Go.Vc Go.Proofs
set_option linter.unusedSimpArgs false
set_option linter.unusedVariables false
set_option maxRecDepth 100000
set_option maxHeartbeats 4000000
attribute [local irreducible] CallW EqK
theorem warmW {f : FuncId} {l : List ByteArray} {ex : Bool} {d d' : D} {t t0 : AV} {a a' : AV} (hm : Meets Try.prog f [d] t0 fun av X κ => av = a ∧ X = [d'] ∧ κ = [(0, [.d])]) (ht : t.chilled (.sl true () 1 (strs l)) = t0) (ha : a.plain = true) (hd : d'.allOwn = true) (he : a.emb [] 1 = a') :
  Meets Try.prog f [.sl true () 1 (strs l), d] t fun av X κ => av = a' ∧ X = [.sl true () 1 (strs l), d'] ∧ κ = [(1, [.d])] := by
 have m1 := Meets.warmK (P := Try.prog) (f := f) (d0 := .sl true () 1 (strs l)) (Y := [d]) (t := t) (by rw [ht]; exact hm) (by rintro av X κ ⟨rfl, rfl, rfl⟩; exact ⟨ha, by simpa using hd⟩)
 refine Meets.mono m1 ?_
 rintro av X κ ⟨_, _, _, ⟨rfl, rfl, rfl⟩, rfl, rfl, rfl⟩
 exact ⟨he, rfl, rfl⟩
theorem unit_w {n : Nat} (g : Gb) (b : Bk n g) (ex : Bool) (l : List ByteArray) (h0 : 0 < l.length) (hl : l.length ≤ 100000) : Meets Try.prog 11 [.sl true () 1 (strs l), dBk g] (.cons (.ptr 1 [.d]) (.cons (.sub 0 [] 0 l.length ex) .nil))
  fun av X κ => av = two (unitOf g l).2 ∧ X = [.sl true () 1 (strs l), dBk (unitOf g l).1] ∧ κ = [(1, [.d])] :=
 warmW (ex := ex) (unit_c g b ex l h0 hl) (by simp [AV.chilled]) rfl (by simp) rfl
theorem renew_w {n : Nat} (g : Gb) (b : Bk n g) (u : Int) (ex : Bool) (l : List ByteArray) (h0 : 0 < l.length) (hl : l.length ≤ 100000) : Meets Try.prog 15 [.sl true () 1 (strs l), dBk g] (.cons (.ptr 1 [.d]) (.cons (avInt u) (.cons (.sub 0 [] 0 l.length ex) .nil)))
  fun av X κ => av = avInt (renewOf g u l).2 ∧ X = [.sl true () 1 (strs l), dBk (renewOf g u l).1] ∧ κ = [(1, [.d])] :=
 warmW (ex := ex) (renew_c g b u ex l h0 hl) (by simp [AV.chilled]) rfl (by simp) rfl
theorem u64_nonneg (x : Int) : 0 ≤ IntKind.u64.wrap x := by simp only [IntKind.wrap, IntKind.bits, IntKind.signed]; simp; omega
def fitN (x : Int) (n : Nat) : Nat := if n = 0 then 0 else ((IntKind.u64.wrap x).tmod n).toNat
theorem fitN_eq (x : Int) {n : Nat} (h : 0 < n) : (IntKind.u64.wrap x).tmod n = (fitN x n : Int) ∧ fitN x n < n := by
 have h1 : 0 ≤ (IntKind.u64.wrap x).tmod n := Int.tmod_nonneg _ (u64_nonneg x)
 have h2 : (IntKind.u64.wrap x).tmod n < n := Int.tmod_lt_of_pos _ (by omega)
 rw [fitN, if_neg (by omega)]
 omega
theorem fitN_lt (x : Int) {n : Nat} (h : 0 < n) : fitN x n < n := (fitN_eq x h).2
def keyL (s : ByteArray) : List ByteArray := [⟨#[97]⟩, ⟨#[98]⟩, ⟨#[99]⟩, ⟨#[100]⟩, s]
def keyOf (n : Int) (s : ByteArray) : ByteArray := (keyL s).getD (fitN n 5) ⟨#[]⟩
theorem key_ok (n : Int) (s : ByteArray) : Meets Try.prog 10 [] (.cons (avInt n) (.cons (avStr s) .nil)) fun av X κ => av = avStr (keyOf n s) ∧ X = [] ∧ κ = [] := by
 obtain ⟨h1, h2⟩ := fitN_eq n (n := 5) (by omega)
 have h1' : (IntKind.u64.wrap n).tmod 5 = (fitN n 5 : Int) := h1
 have w2 : IntKind.i64.wrap (fitN n 5 : Int) = fitN n 5 := IntWalk.i64_in _ (by omega)
 have hv : ((.cons (.val (.string ⟨#[97]⟩)) (.cons (.val (.string ⟨#[98]⟩)) (.cons (.val (.string ⟨#[99]⟩)) (.cons (.val (.string ⟨#[100]⟩)) (.cons (.val (.string s)) .nil))))) : D).nth (fitN n 5) = .val (.string (keyOf n s)) := by
  rw [keyOf, List.getD_eq_getElem?_getD, List.getElem?_eq_getElem (by simpa [keyL] using h2), Option.getD_some]
  exact strs_nth (l := keyL s) (by simpa [keyL] using h2)
 have i1 : (fitN n 5 : Int) < 5 := by omega
 refine fb Try.func10 Try.ntmps10 [.tmp 4] fun w0 I0 F0 hF => ?_
 repeat first|refine n1 ?_|((first|refine rg 0 [0, 1] [0, 1] [] ?_|refine rg 1 [0, 1] [4] [] ?_);simp (maxSteps := 1000000) [hF, h1', h2, hv, i1, w2])
 (try refine nr ?_);(repeat first|refine nb_ ?_|refine nl_ ?_);refine endK.o [4] [] [] ?_;simp [hF, retK, covers, mpre]
theorem ints_ok (l : List Int) (ex ex2 : Bool) (hl : l.length ≤ 100000) : Meets Try.prog 21 [] (.cons (.imm 1 (dInts l) ex) (.cons (.imm 1 (dInts l) ex2) .nil)) fun av X κ => av = avBool true ∧ X = [] ∧ κ = [] := by
 refine fb Try.func21 Try.ntmps21 [.tmp 4] fun w0 I0 F0 hF => ?_
 repeat first|refine n1 ?_|refine n2 ?_|refine n3 ?_|((first|refine rg 0 [0, 1] [0, 1] [] ?_|refine rg 1 [0, 1] [0, 1, 10] [] ?_|refine rg 3 [0, 1] [0, 1, 5] [] ?_|refine nc ?_);simp (maxSteps := 1000000) [hF])
 refine VS.rounds (fun m st => ∃ (i : Nat), i + m = l.length ∧ st = ⟨[(0, .imm 1 (dInts l) ex), (1, .imm 1 (dInts l) ex2), (5, avInt i)], [], [], []⟩) ⟨l.length, 0, by omega, by simp⟩ ?_
 rintro m st ⟨i, hi, rfl⟩
 repeat first|refine n1 ?_|((first|refine rg 4 [0, 1, 5] [0, 1, 5, 14] [] ?_|refine nc ?_);simp (maxSteps := 1000000) [hF])
 refine ⟨fun hlt => ?_, fun hge => ?_⟩
 ·have hn := dInts_nth hlt
  have hw : IntKind.i64.wrap ((i : Int) + 1) = (i + 1 : Nat) := by rw [IntWalk.i64_in _ (by omega)]; rfl
  repeat first|refine n1 ?_|refine n2 ?_|refine n3 ?_|refine n4 ?_|refine n5 ?_|refine n6 ?_|((first|refine rg 5 [0, 1, 5] [0, 1, 5] [] ?_|(refine dr 6 0 [0, 1, 5] [0, 1, 5, 25] [] [⟨0, 1, 131072, 5⟩, ⟨0, 32, 262144, 5⟩, ⟨3, 393216, 524288, 5⟩, ⟨4, 524288, 1048576, 6⟩, ⟨0, 2, 2097152, 5⟩, ⟨0, 32, 4194304, 5⟩, ⟨48, 6291456, 8388608, 5⟩, ⟨64, 8388608, 16777216, 6⟩, ⟨136, 17825792, 33554432, 5⟩] (.take 0 (.take 1 (.take 2 (.take 3 (.take 4 (.take 5 (.take 6 (.take 7 (.take 8 (.done)))))))))) (.run [0, 1, 2, 3, 4, 5, 6, 7, 8] (.done)) ?_;simp only [drs])|refine nc ?_);simp (maxSteps := 1000000) [hF, hn, hlt, hw])
  refine nextK.of [0, 1, 5] [] (m - 1) (by omega) (by simp [hF]) ?_
  exact ⟨i + 1, by omega, by simp⟩
 ·repeat first|refine n1 ?_|refine n7 ?_|(refine rg 8 [] [4] [] ?_;simp (maxSteps := 1000000) [hF])
  (try refine nr ?_);(repeat first|refine nb_ ?_|refine nl_ ?_);refine endK.o [4] [] [] ?_;simp [hF, retK, covers, mpre]
theorem ints_c (l : List Int) (ex ex2 : Bool) (hl : l.length ≤ 100000) : Meets Try.prog 21 [.sl true () 1 (dInts l), .sl true () 1 (dInts l)] (.cons (.sub 0 [] 0 l.length ex) (.cons (.sub 1 [] 0 l.length ex2) .nil))
  fun av X κ => av = avBool true ∧ X = [.sl true () 1 (dInts l), .sl true () 1 (dInts l)] ∧ κ = [] :=
 warmL (t0 := .cons (.imm 1 (dInts l) ex) (.cons (.sub 0 [] 0 l.length ex2) .nil)) (warmL (ints_ok l ex ex2 hl) (by simp [AV.chilled]) rfl (by simp) rfl) (by simp [AV.chilled]) rfl (by simp [T.allOwn]) rfl
theorem ints_n (l : List Nat) (ex ex2 : Bool) (hl : l.length ≤ 100000) : Meets Try.prog 21 [.sl true () 1 (dInts (nats l)), .sl true () 1 (dInts (nats l))] (.cons (.sub 0 [] 0 l.length ex) (.cons (.sub 1 [] 0 l.length ex2) .nil))
  fun av X κ => av = avBool true ∧ X = [.sl true () 1 (dInts (nats l)), .sl true () 1 (dInts (nats l))] ∧ κ = [] := by
 have h := ints_c (nats l) ex ex2 (by simpa using hl)
 rwa [nats_len] at h
structure Ld where
 d : Int
 u : Int
 o : Int
 n : Int
 k : ByteArray
 ks : List ByteArray
def dLd (d : Ld) : D := .agg (.cons (.val (.int .i64 d.d)) (.cons (.val (.int .i64 d.u)) (.cons (.val (.int .i64 d.o)) (.cons (.val (.int .i64 d.n)) (.cons (.val (.string d.k)) (.cons (.sl false () 1 (strs d.ks)) .nil))))))
def dLds (l : List Ld) : D := sq (l.map dLd)
def avLd (d : Ld) : AV := .agg (.cons (avInt d.d) (.cons (avInt d.u) (.cons (avInt d.o) (.cons (avInt d.n) (.cons (avStr d.k) (.cons (.imm 1 (strs d.ks) false) .nil))))))
@[simp] theorem dLds_len (l : List Ld) : (dLds l).len = l.length := by simp [dLds]
@[simp] theorem dLds_free (l : List Ld) : (dLds l).free = true := sq_free fun x hx => by obtain ⟨n, _, rfl⟩ := List.mem_map.1 hx; simp [dLd]
theorem dLds_nth {l : List Ld} {i : Nat} (h : i < l.length) : (dLds l).nth i = .agg (.cons (.val (.int .i64 l[i].d)) (.cons (.val (.int .i64 l[i].u)) (.cons (.val (.int .i64 l[i].o)) (.cons (.val (.int .i64 l[i].n)) (.cons (.val (.string l[i].k)) (.cons (.sl false () 1 (strs l[i].ks)) .nil)))))) := by
 rw [dLds, sq_nth_lt (by simpa using h)]; simp; rfl
def keysL (d : Ld) : List ByteArray := keyOf d.n d.k :: d.ks.take 60
def toG (d : Ld) : Gd := ⟨d.d, d.u, d.o, keyOf d.n d.k, keysL d⟩
def kA : ByteArray := ⟨#[97]⟩
def kB : ByteArray := ⟨#[98]⟩
def S1 : Gb := ⟨[⟨true, [kA], []⟩], []⟩
def S2 : Gb := ⟨[⟨true, [kA], []⟩, ⟨true, [kB], []⟩], []⟩
def S3 : Gb := ⟨[⟨true, [kA], [1]⟩, ⟨true, [kB], []⟩], []⟩
theorem s1 : unitOf bornB [kA] = (S1, 0, 0) := by kernel_rfl
theorem s2 : unitOf S1 [kB] = (S2, 1, 0) := by kernel_rfl
theorem F1 : Fb 1 S1 := by have := fb_do fb_born ⟨0, 0, 0, kA, [kA]⟩; rwa [show (doG bornB ⟨0, 0, 0, kA, [kA]⟩).1 = S1 from by simp [doG, s1]] at this
theorem F2 : Fb 2 S2 := by have := fb_do F1 ⟨0, 0, 0, kB, [kB]⟩; rwa [show (doG S1 ⟨0, 0, 0, kB, [kB]⟩).1 = S2 from by simp [doG, s2]] at this
theorem noRc {us : List Un} {S : Nat → Prop} (P : Nat → Prop) (h1 : ∀ x, S x → P x) (h2 : ∀ x, P x → ∀ y ∈ innOf us x, P y) {x : Nat} (h : Rc us S x) : P x := by
 induction h with
 | base h => exact h1 _ h
 | step _ h ih => exact h2 _ ih _ h
theorem s3 : intoOf S2 0 1 = (S3, 0) := by
 have hr : rcB S2.units (fun x => x = (1 : Int).toNat) (0 : Int).toNat = false := by
  rw [Bool.eq_false_iff, ne_eq, rcB_iff]
  intro h
  have := noRc (us := S2.units) (fun x => x = 1) (fun x hx => hx) (by rintro x rfl y hy; simp [innOf, S2] at hy) h
  exact absurd this (by decide)
 rw [intoOf, if_neg (by decide), if_neg (by decide), hr, if_neg (by decide), if_neg (by decide)]
 rfl
theorem F3 : Fb 3 S3 := by have := fb_do F2 ⟨2, 0, 1, kA, []⟩; rwa [show (doG S2 ⟨2, 0, 1, kA, []⟩).1 = S3 from by simp [doG, s3]] at this
theorem s4 : aboveOf S3.units (relyB S3.units kA) = [true, true] := by
 have h0 : relyB S3.units kA 0 := ⟨_, rfl, rfl, by simp⟩
 refine (marks_eq (M := [true, true]) rfl (fun x hx => ?_) (fun x hx => ?_) fun x hx y hy => ?_).symm
 ·have hl := getD_at' hx
  have : x = 0 ∨ x = 1 := by simp at hl; omega
  rcases this with rfl | rfl
  ·exact .base h0
  ·exact .step (.base h0) (by simp [innOf, S3])
 ·obtain ⟨u, hu, _⟩ := hx
  have hl := (List.getElem?_eq_some_iff.1 hu).1
  have : x = 0 ∨ x = 1 := by simp [S3] at hl; omega
  rcases this with rfl | rfl <;> rfl
 ·have hl := getD_at' hx
  have : x = 0 ∨ x = 1 := by simp at hl; omega
  rcases this with rfl | rfl
  ·have : y = 1 := by simpa [innOf, S3] using hy
   subst this; rfl
  ·simp [innOf, S3] at hy
theorem s5 : (moveOf S3 kA).2 = ([0, 1], 0) := by
 have hk : isKeyB kA = true := by decide
 rw [moveOf, if_neg (by rw [hk]; decide)]
 simp only [fallOf, s4]
 rfl
theorem sane_ok : Meets Try.prog 18 [] .nil fun av X κ => av = avBool true ∧ X = [] ∧ κ = [] := by
 have hA : strs [kA] = .cons (.val (.string ⟨#[97]⟩)) .nil := rfl
 have hB : strs [kB] = .cons (.val (.string ⟨#[98]⟩)) .nil := rfl
 have hk : (⟨#[97]⟩ : ByteArray) = kA := rfl
 have h01 : dInts (nats [0, 1]) = .cons (.val (.int .i64 0)) (.cons (.val (.int .i64 1)) .nil) := rfl
 refine fb Try.func18 Try.ntmps18 [.tmp 0] fun w0 I0 F0 hF => ?_
 repeat first|refine n1 ?_|((first|refine rg 0 [] [] [] ?_|refine rg 1 [] [1] [] ?_);simp (maxSteps := 1000000) [hF])
 refine (new_ok).go [] (by simp (maxSteps := 1000000) [hF]) ?_;rintro av X κ ⟨rfl, rfl, rfl⟩;simp (maxSteps := 1000000) [hF]
 repeat first|refine n1 ?_|refine n2 ?_|((first|refine rg 2 [1] [1, 7] [] ?_|refine rg 4 [1] [1] [] ?_|refine nc ?_);simp (maxSteps := 1000000) [hF])
 refine (unit_w bornB fb_born.bk true [kA] (by simp) (by simp)).go [(1, []), (0, [])] (by simp (maxSteps := 1000000) [hF, s1, dBk, hA]) ?_;rintro av X κ ⟨rfl, rfl, rfl⟩;simp (maxSteps := 1000000) [hF, s1, dBk, hA]
 repeat first|refine n1 ?_|(refine rg 5 [1] [1] [] ?_;simp (maxSteps := 1000000) [hF])
 refine (unit_w S1 F1.bk true [kB] (by simp) (by simp)).go [(2, []), (0, [])] (by simp (maxSteps := 1000000) [hF, s2, dBk, hB]) ?_;rintro av X κ ⟨rfl, rfl, rfl⟩;simp (maxSteps := 1000000) [hF, s2, dBk, hB]
 repeat first|refine n1 ?_|(refine rg 6 [1] [1, 2] [] ?_;simp (maxSteps := 1000000) [hF])
 refine (into_c S2 F2.bk 0 1).go [(0, [])] (by simp (maxSteps := 1000000) [hF, s3, dBk]) ?_;rintro av X κ ⟨rfl, rfl, rfl⟩;simp (maxSteps := 1000000) [hF, s3, dBk]
 repeat first|refine n1 ?_|(refine rg 7 [1, 2] [2, 3, 4] [] ?_;simp (maxSteps := 1000000) [hF])
 refine (move_c S3 F3.bk (by omega) kA).go [(0, [])] (by simp (maxSteps := 1000000) [hF, s5, dBk, hk]) ?_;rintro av X κ ⟨rfl, rfl, rfl⟩;simp (maxSteps := 1000000) [hF, s5, dBk, hk]
 repeat first|refine n1 ?_|(refine rg 8 [2, 3, 4] [0] [(2, 23), (6, 27)] ?_;simp (maxSteps := 1000000) [hF])
 refine (ints_n [0, 1] false true (by simp)).go [(3, []), (4, [])] (by simp (maxSteps := 1000000) [hF, h01]) ?_;rintro av X κ ⟨rfl, rfl, rfl⟩;simp (maxSteps := 1000000) [hF, h01]
 (try refine nr ?_);(repeat first|refine nb_ ?_|refine nl_ ?_);refine endK.o [0] [] [] ?_;simp [hF, retK, covers, mpre]
theorem doG_0 {g : Gb} {x : Gd} (h : x.d = 0) : (doG g x).1 = (unitOf g x.l).1 := by simp [doG, h]
theorem doG_1 {g : Gb} {x : Gd} (h : x.d = 1) : (doG g x).1 = (relyOf g x.u x.k).1 := by simp [doG, h]
theorem doG_2 {g : Gb} {x : Gd} (h : x.d = 2) : (doG g x).1 = (intoOf g x.u x.o).1 := by simp [doG, h]
theorem doG_3 {g : Gb} {x : Gd} (h : x.d = 3) : (doG g x).1 = (moveOf g x.k).1 := by simp [doG, h]
theorem doG_4 {g : Gb} {x : Gd} (h : x.d = 4) : (doG g x).1 = (renewOf g x.u x.l).1 := by simp [doG, h]
noncomputable def runL (g : Gb) (L : List Ld) : Gb := bookG g (L.map toG)
noncomputable def playedOf (L : List Ld) : Gb := runL bornB (L.take 80)
theorem fb_run {n : Nat} {g : Gb} (f : Fb n g) (L : List Ld) : Fb (n + L.length) (runL g L) := by have := fb_book f (L.map toG); rwa [List.length_map] at this
theorem fb_runs (L : List Ld) (i : Nat) (hi : i ≤ 80) : Fb 80 (runL bornB (L.take i)) := Fb.mono (fb_run fb_born (L.take i)) (by rw [List.length_take]; omega)
theorem fb_played (L : List Ld) : Fb 80 (playedOf L) := fb_runs L 80 (by omega)
@[simp high] theorem node_dBk (g : Gb) : isNode (dBk g) = true := rfl
@[simp high] theorem node_eBk (g : Gb) : isNode (eBk g) = true := rfl
end Go.Proofs.Ytipokdbfdingmaa

/- The arguments of the laws: numbers, texts, deeds. -/
namespace Go.Proofs.Ytipokdbfdingmaa
set_option linter.all false
open Go.Vc Go.Proofs Go
set_option maxRecDepth 100000
theorem map_strs {l : List D} (h : ∀ x ∈ l, ∃ n, x = .val (.string n)) : ∃ ys : List ByteArray, sq l = strs ys := by
  obtain ⟨ys, rfl⟩ := map_of (f := fun n => (.val (.string n) : D)) h
  exact ⟨ys, rfl⟩
theorem reads_ld : Reads Try.prog 29 6 fun d => ∃ x, d = dLd x := by
  have h := reads_struct (gs := [(1, fun d => ∃ n, d = .val (.int .i64 n)), (1, fun d => ∃ n, d = .val (.int .i64 n)), (1, fun d => ∃ n, d = .val (.int .i64 n)), (1, fun d => ∃ n, d = .val (.int .i64 n)), (1, fun d => ∃ n, d = .val (.string n)),
      (1, fun d => ∃ l : List D, (∀ x ∈ l, ∃ n, x = .val (.string n)) ∧ l.length ≤ 2 ^ 63 - 1 ∧ d = .sl false () 1 (sq l))]) Try.underlying29
    ⟨reads_int Try.underlying3, by kernel_rfl, rfl, reads_int Try.underlying3, by kernel_rfl, rfl, reads_int Try.underlying3, by kernel_rfl, rfl, reads_int Try.underlying3, by kernel_rfl, rfl, reads_str Try.underlying9, by kernel_rfl, rfl,
      reads_slice Try.underlying27 (reads_str Try.underlying9) (by kernel_rfl) (by omega), by kernel_rfl, rfl, trivial⟩ (by kernel_rfl)
  refine fun H enc w fuel cs x hx => ?_
  obtain ⟨g, h1, h2, h3, h4, s, h5, a1, t1, rfl, ⟨n1, rfl⟩, a2, t2, rfl, ⟨n2, rfl⟩, a3, t3, rfl, ⟨n3, rfl⟩, a4, t4, rfl, ⟨n4, rfl⟩, a5, t5, rfl, ⟨n5, rfl⟩, a6, t6, rfl, ⟨l, hl, _, rfl⟩, rfl⟩ := h H enc w fuel cs x hx
  obtain ⟨ys, e⟩ := map_strs hl
  exact ⟨g, h1, h2, h3, h4, ⟨n1, n2, n3, n4, n5, ys⟩, by rw [h5, e]; rfl⟩
section
variable {H : Type} {enc : TypeId × Value → H} {w : World} {r : Go.Reach} {b0 : Nat} {v : Value} {d : DataW H} {ps : List MemPlace}
theorem deeds_of (hv : Value.okWide Try.prog w r b0 22 v) (h : DataW.Trod enc Try.prog w 0 (fun _ => true) true 22 v d ps) :
    ∃ l : List Ld, l.length ≤ 2 ^ 63 - 1 ∧ Rl w.heap (allB w) [] (.imm 6 (dLds l) false) true [v] := by
  obtain ⟨l, h1, h2, h3⟩ := imm_of_trod (z := 6) Try.underlying22 reads_ld (by kernel_rfl) (by omega) hv h
  obtain ⟨ys, rfl⟩ := map_of h1
  exact ⟨ys, by simpa using h2, h3⟩
end
end Go.Proofs.Ytipokdbfdingmaa
