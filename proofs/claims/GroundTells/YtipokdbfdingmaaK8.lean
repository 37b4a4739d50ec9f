/- The law's own functions: what both tell of a unit, of a key. -/
import Derived.Test.YtipokdbfdingmaaK7
import Derived.Test.YtipokdbfdingmaaK5
import Derived.ChangeMaps5
namespace Go.Proofs.Ytipokdbfdingmaa
set_option linter.all false
open Go.Vc Go.Proofs
set_option linter.unusedSimpArgs false
set_option linter.unusedVariables false
set_option maxRecDepth 100000
set_option maxHeartbeats 4000000
attribute [local irreducible] CallW EqK
theorem keysQ_len {n : Nat} {g : Gb} (b : Bk n g) (u : Int) : (keysQ g u).1.length ≤ 30 := by
 unfold keysQ
 split
 ·simp
 ·rename_i h
  obtain ⟨i, hi, rfl, hu, _⟩ := unOf_mem (g := g) (u := u) (by simpa using h)
  simp only [hu]
  exact (b.asc _ (List.getElem_mem hi)).2
theorem allQ_len {n : Nat} {g : Gb} (b : Bk n g) (u : Int) : (allQ g u).1.length ≤ 6000 := by
 unfold allQ
 split
 ·simp
 ·show (allKOf g u.toNat).length ≤ 6000
  rw [← keysUp_all]
  have h1 := keysS_len (keysUp g u.toNat g.units.length)
  have h2 := keysUp_len b u.toNat g.units.length (Nat.le_refl _)
  have := b.len
  omega
theorem whoQ_len {n : Nat} {g : Gb} (b : Bk n g) (k : ByteArray) : (whoQ g k).1.length ≤ 200 := by
 unfold whoQ
 split
 ·simp
 ·exact Nat.le_trans (numb_len _) (by simpa using b.len)
theorem unit_i {n : Nat} (g : Gb) (f : Fb n g) (u : Int) : Meets Try.prog 28 [dBk g] (.cons (.ptr 0 [.d]) (.cons (avE g) (.cons (avInt u) .nil))) fun av X κ => av = avBool true ∧ X = [dBk g] ∧ κ = [] := by
 have b := f.bk
 have l1 := keysQ_len b u
 have l2 := allQ_len b u
 refine fb Try.func28 Try.ntmps28 [.tmp 6] fun w0 I0 F0 hF => ?_
 repeat first|refine n1 ?_|((first|refine rg 0 [0, 1, 2] [0, 1, 2] [] ?_|refine rg 1 [0, 1, 2] [0, 1, 2, 7, 8] [] ?_);simp (maxSteps := 1000000) [hF])
 refine (up_c g u).go [(0, [])] (by simp (maxSteps := 1000000) [hF, dBk]) ?_;rintro av X κ ⟨rfl, rfl, rfl⟩;simp (maxSteps := 1000000) [hF, dBk]
 repeat first|refine n1 ?_|(refine rg 2 [0, 1, 2, 7, 8] [0, 1, 2, 7, 8, 9, 10] [] ?_;simp (maxSteps := 1000000) [hF])
 refine (eup_ok g u).go [] (by simp (maxSteps := 1000000) [hF, dBk]) ?_;rintro av X κ ⟨rfl, rfl, rfl⟩;simp (maxSteps := 1000000) [hF, dBk]
 repeat first|refine n1 ?_|(refine rg 3 [0, 1, 2, 7, 8, 9, 10] [0, 1, 2, 7, 8, 9, 10, 11, 12] [] ?_;simp (maxSteps := 1000000) [hF])
 refine (keys_c g b u).go [(0, [])] (by simp (maxSteps := 1000000) [hF, dBk]) ?_;rintro av X κ ⟨rfl, rfl, rfl⟩;simp (maxSteps := 1000000) [hF, dBk]
 repeat first|refine n1 ?_|(refine rg 4 [0, 1, 2, 7, 8, 9, 10, 11, 12] [0, 1, 2, 7, 8, 9, 10, 11, 12, 13, 14] [] ?_;simp (maxSteps := 1000000) [hF])
 refine (ekeysof_ok g b u).go [] (by simp (maxSteps := 1000000) [hF, dBk]) ?_;rintro av X κ ⟨rfl, rfl, rfl⟩;simp (maxSteps := 1000000) [hF, dBk]
 repeat first|refine n1 ?_|(refine rg 5 [0, 1, 2, 7, 8, 9, 10, 11, 12, 13, 14] [1, 2, 7, 8, 9, 10, 11, 12, 13, 14, 15, 16] [] ?_;simp (maxSteps := 1000000) [hF])
 refine (all_c g f u).go [(0, [])] (by simp (maxSteps := 1000000) [hF, dBk]) ?_;rintro av X κ ⟨rfl, rfl, rfl⟩;simp (maxSteps := 1000000) [hF, dBk]
 repeat first|refine n1 ?_|(refine rg 6 [1, 2, 7, 8, 9, 10, 11, 12, 13, 14, 15, 16] [7, 8, 9, 10, 11, 12, 13, 14, 15, 16, 17, 18] [] ?_;simp (maxSteps := 1000000) [hF])
 refine (eall_ok g b u).go [] (by simp (maxSteps := 1000000) [hF, dBk]) ?_;rintro av X κ ⟨rfl, rfl, rfl⟩;simp (maxSteps := 1000000) [hF, dBk]
 repeat first|refine n1 ?_|(refine rg 7 [7, 8, 9, 10, 11, 12, 13, 14, 15, 16, 17, 18] [6] [(3, 58), (8, 63), (13, 68), (18, 73), (23, 78)] ?_;simp (maxSteps := 1000000) [hF])
 refine (texts_c (keysQ g u).1 false false (by omega)).go [(1, []), (2, [])] (by simp (maxSteps := 1000000) [hF, dBk]) ?_;rintro av X κ ⟨rfl, rfl, rfl⟩;simp (maxSteps := 1000000) [hF, dBk]
 refine (texts_c (allQ g u).1 false false (by omega)).go [(3, []), (4, [])] (by simp (maxSteps := 1000000) [hF, dBk]) ?_;rintro av X κ ⟨rfl, rfl, rfl⟩;simp (maxSteps := 1000000) [hF, dBk]
 (try refine nr ?_);(repeat first|refine nb_ ?_|refine nl_ ?_);refine endK.o [6] [0] [] ?_;simp [hF, retK, covers, mpre, dBk]
theorem unit_c2 {n : Nat} (g : Gb) (f : Fb n g) (u : Int) : Meets Try.prog 28 [eBk g, dBk g] (.cons (.ptr 1 [.d]) (.cons (.ptr 0 [.d]) (.cons (avInt u) .nil))) fun av X κ => av = avBool true ∧ X = [eBk g, dBk g] ∧ κ = [] := by
 have e : (AV.cons (.ptr 1 [.d]) (.cons (.ptr 0 [.d]) (.cons (avInt u) .nil))).chilled (eBk g) = .cons (.ptr 0 [.d]) (.cons (avE g) (.cons (avInt u) .nil)) := by rw [AV.chilled, chillE]; rfl
 refine Meets.mono (Meets.warm (d0 := eBk g) (Y := [dBk g]) (by rw [e]; exact unit_i g f u) ?_) ?_
 ·rintro av X κ ⟨rfl, rfl, rfl⟩; exact ⟨rfl, by simp, rfl⟩
 ·rintro av X κ ⟨av0, X0, ⟨rfl, rfl, _⟩, rfl, rfl, rfl⟩; exact ⟨rfl, rfl, rfl⟩
theorem grounds_i {n : Nat} (g : Gb) (f : Fb n g) (hn : n ≤ 1000000) (k : ByteArray) : Meets Try.prog 29 [dBk g] (.cons (.ptr 0 [.d]) (.cons (avE g) (.cons (avStr k) .nil))) fun av X κ => av = avBool true ∧ X = [dBk g] ∧ κ = [] := by
 have b := f.bk
 have l1 := whoQ_len b k
 refine fb Try.func29 Try.ntmps29 [.tmp 6] fun w0 I0 F0 hF => ?_
 repeat first|refine n1 ?_|((first|refine rg 0 [0, 1, 2] [0, 1, 2] [] ?_|refine rg 1 [0, 1, 2] [0, 1, 2, 7, 8] [] ?_);simp (maxSteps := 1000000) [hF])
 refine (serial_c g k).go [(0, [])] (by simp (maxSteps := 1000000) [hF, dBk]) ?_;rintro av X κ ⟨rfl, rfl, rfl⟩;simp (maxSteps := 1000000) [hF, dBk]
 repeat first|refine n1 ?_|(refine rg 2 [0, 1, 2, 7, 8] [0, 1, 2, 7, 8, 9, 10] [] ?_;simp (maxSteps := 1000000) [hF])
 refine (eserial_ok g b hn k).go [] (by simp (maxSteps := 1000000) [hF, dBk]) ?_;rintro av X κ ⟨rfl, rfl, rfl⟩;simp (maxSteps := 1000000) [hF, dBk]
 repeat first|refine n1 ?_|(refine rg 3 [0, 1, 2, 7, 8, 9, 10] [1, 2, 7, 8, 9, 10, 11, 12] [] ?_;simp (maxSteps := 1000000) [hF])
 refine (who_c g b k).go [(0, [])] (by simp (maxSteps := 1000000) [hF, dBk]) ?_;rintro av X κ ⟨rfl, rfl, rfl⟩;simp (maxSteps := 1000000) [hF, dBk]
 repeat first|refine n1 ?_|(refine rg 4 [1, 2, 7, 8, 9, 10, 11, 12] [7, 8, 9, 10, 11, 12, 13, 14] [] ?_;simp (maxSteps := 1000000) [hF])
 refine (eWho_ok g b k).go [] (by simp (maxSteps := 1000000) [hF, dBk]) ?_;rintro av X κ ⟨rfl, rfl, rfl⟩;simp (maxSteps := 1000000) [hF, dBk]
 repeat first|refine n1 ?_|(refine rg 5 [7, 8, 9, 10, 11, 12, 13, 14] [6] [(3, 42), (8, 47), (13, 52)] ?_;simp (maxSteps := 1000000) [hF])
 refine (ints_n (whoQ g k).1 false false (by omega)).go [(1, []), (2, [])] (by simp (maxSteps := 1000000) [hF, dBk]) ?_;rintro av X κ ⟨rfl, rfl, rfl⟩;simp (maxSteps := 1000000) [hF, dBk]
 (try refine nr ?_);(repeat first|refine nb_ ?_|refine nl_ ?_);refine endK.o [6] [0] [] ?_;simp [hF, retK, covers, mpre, dBk]
theorem grounds_c {n : Nat} (g : Gb) (f : Fb n g) (hn : n ≤ 1000000) (k : ByteArray) : Meets Try.prog 29 [eBk g, dBk g] (.cons (.ptr 1 [.d]) (.cons (.ptr 0 [.d]) (.cons (avStr k) .nil))) fun av X κ => av = avBool true ∧ X = [eBk g, dBk g] ∧ κ = [] := by
 have e : (AV.cons (.ptr 1 [.d]) (.cons (.ptr 0 [.d]) (.cons (avStr k) .nil))).chilled (eBk g) = .cons (.ptr 0 [.d]) (.cons (avE g) (.cons (avStr k) .nil)) := by rw [AV.chilled, chillE]; rfl
 refine Meets.mono (Meets.warm (d0 := eBk g) (Y := [dBk g]) (by rw [e]; exact grounds_i g f hn k) ?_) ?_
 ·rintro av X κ ⟨rfl, rfl, rfl⟩; exact ⟨rfl, by simp, rfl⟩
 ·rintro av X κ ⟨av0, X0, ⟨rfl, rfl, _⟩, rfl, rfl, rfl⟩; exact ⟨rfl, rfl, rfl⟩
noncomputable def runL (g : Gb) (L : List Ld) : Gb := bookG g (L.map toG)
theorem runL_snoc (g : Gb) (L : List Ld) (d : Ld) : runL g (L ++ [d]) = (doG (runL g L) (toG d)).1 := by rw [runL, List.map_append, List.map_singleton, bookG_snoc]; rfl
noncomputable def playedOf (L : List Ld) : Gb := runL bornB (L.take 80)
theorem fb_run {n : Nat} {g : Gb} (f : Fb n g) (L : List Ld) : Fb (n + L.length) (runL g L) := by have := fb_book f (L.map toG); rwa [List.length_map] at this
theorem fb_runs (L : List Ld) (i : Nat) (hi : i ≤ 80) : Fb 80 (runL bornB (L.take i)) := Fb.mono (fb_run fb_born (L.take i)) (by rw [List.length_take]; omega)
theorem fb_played (L : List Ld) : Fb 80 (playedOf L) := fb_runs L 80 (by omega)
@[simp high] theorem node_dBk (g : Gb) : isNode (dBk g) = true := rfl
@[simp high] theorem node_eBk (g : Gb) : isNode (eBk g) = true := rfl
theorem played_ok (L : List Ld) (ex : Bool) : Meets Try.prog 23 [] (.cons (.imm 6 (dLds L) ex) .nil)
  fun av X κ => av = .tup (.cons (.ptr 0 [.d]) (.cons (.ptr 1 [.d]) (.cons (avBool true) .nil))) ∧ X = [dBk (playedOf L), eBk (playedOf L)] ∧ κ = [] := by
 refine fb Try.func23 Try.ntmps23 [.tmp 2, .tmp 3, .tmp 4] fun w0 I0 F0 hF => ?_
 repeat first|refine n1 ?_|((first|refine rg 0 [0] [0] [] ?_|refine rg 1 [0] [0, 5] [] ?_);simp (maxSteps := 1000000) [hF])
 refine (new_ok).go [] (by simp (maxSteps := 1000000) [hF]) ?_;rintro av X κ ⟨rfl, rfl, rfl⟩;simp (maxSteps := 1000000) [hF]
 repeat first|refine n1 ?_|(refine rg 2 [0, 5] [0, 5, 6] [] ?_;simp (maxSteps := 1000000) [hF])
 refine (enew_ok).go [] (by simp (maxSteps := 1000000) [hF]) ?_;rintro av X κ ⟨rfl, rfl, rfl⟩;simp (maxSteps := 1000000) [hF]
 repeat first|refine n1 ?_|refine n2 ?_|refine n3 ?_|((first|refine rg 3 [0, 5, 6] [0, 5, 6, 11] [] ?_|refine rg 5 [0, 5, 6] [0, 5, 6, 7] [] ?_|refine nc ?_);simp (maxSteps := 1000000) [hF])
 refine VS.rounds (fun m st => ∃ (i : Nat), i + m = L.length ∧ i ≤ 80 ∧ st = ⟨[(0, .imm 6 (dLds L) ex), (5, .ptr 0 [.d]), (6, .ptr 1 [.d]), (7, avInt i)], [dBk (runL bornB (L.take i)), eBk (runL bornB (L.take i))], [], []⟩) ⟨L.length, 0, by omega, by omega, by simp [runL, bookG]⟩ ?_
 rintro m st ⟨i, hi, hi8, rfl⟩
 have hf := fb_runs L i hi8
 have hend : (L.length ≤ i ∨ i = 80) → playedOf L = runL bornB (L.take i) := by
  rintro (hl | rfl)
  ·rw [playedOf, List.take_of_length_le hl, List.take_of_length_le (by omega)]
  ·rfl
 repeat first|refine n1 ?_|(refine rg 6 [0, 5, 6, 7] [0, 5, 6, 7, 19] [(4, 16)] ?_;simp (maxSteps := 1000000) [hF])
 refine ⟨fun hlt => ?_, fun hge => ?_⟩
 ·repeat first|(refine nc ?_;simp (maxSteps := 1000000) [hF])
  refine ⟨fun h90 => ?_, fun h90 => ?_⟩
  ·have hlt' : i < L.length := by omega
   have hn1 := dLds_nth hlt'
   have hw : IntKind.i64.wrap ((i : Int) + 1) = (i + 1 : Nat) := by rw [IntWalk.i64_in _ (by omega)]; rfl
   have hs := runL_snoc bornB (L.take i) L[i]
   rw [← take_snoc hlt'] at hs
   generalize hH : runL bornB (L.take i) = H at *
   repeat first|refine n1 ?_|refine n2 ?_|refine n3 ?_|(refine rg 8 [0, 5, 6, 7] [0, 5, 6, 7, 29] [] ?_;simp (maxSteps := 1000000) [hF, hn1, hlt'])
   refine (does_ok hf (by omega) L[i]).go [(0, []), (1, [])] (by simp (maxSteps := 1000000) [hF, avLd, dBk, eBk]) ?_;rintro av X κ ⟨rfl, rfl, rfl⟩;simp (maxSteps := 1000000) [hF, avLd, dBk, eBk]
   repeat first|refine n2 ?_|refine n4 ?_|refine n5 ?_|refine n6 ?_|((first|refine rg 7 [0, 5, 6, 7] [0, 5, 6, 7] [] ?_|refine nc ?_);simp (maxSteps := 1000000) [hF, hw])
   refine nextK.of [0, 5, 6, 7] [0, 1] (m - 1) (by omega) (by simp [hF]) ?_
   exact ⟨i + 1, by omega, by omega, by simp [hs, dBk, eBk]⟩
  ·have he := hend (.inr (by omega))
   repeat first|refine n1 ?_|refine n7 ?_|(refine rg 10 [5, 6] [2, 3, 4] [] ?_;simp (maxSteps := 1000000) [hF])
   (try refine nr ?_);(repeat first|refine nb_ ?_|refine nl_ ?_);refine endK.o [2, 3, 4] [0, 1] [] ?_;simp [hF, retK, covers, mpre, he]
 ·have he := hend (.inl (by omega))
  repeat first|refine n1 ?_|refine n7 ?_|((first|refine rg 10 [5, 6] [2, 3, 4] [] ?_|refine nc ?_);simp (maxSteps := 1000000) [hF])
  (try refine nr ?_);(repeat first|refine nb_ ?_|refine nl_ ?_);refine endK.o [2, 3, 4] [0, 1] [] ?_;simp [hF, retK, covers, mpre, he]
end Go.Proofs.Ytipokdbfdingmaa

/- The arguments of the laws: numbers, texts, deeds. -/
namespace Go.Proofs.Ytipokdbfdingmaa
set_option linter.all false
open Go.Vc Go.Proofs Go
set_option maxRecDepth 100000
theorem map_strs {l : List D} (h : ∀ x ∈ l, ∃ n, x = .val (.string n)) : ∃ ys : List ByteArray, sq l = strs ys := by
  obtain ⟨ys, rfl⟩ := map_of (f := fun n => (.val (.string n) : D)) h
  exact ⟨ys, rfl⟩
theorem reads_ld : Reads Try.prog 29 6 fun d => ∃ x, d = dLd x := by
  have h := reads_struct (gs := [(1, fun d => ∃ n, d = .val (.int .i64 n)), (1, fun d => ∃ n, d = .val (.int .i64 n)), (1, fun d => ∃ n, d = .val (.int .i64 n)), (1, fun d => ∃ n, d = .val (.int .i64 n)), (1, fun d => ∃ n, d = .val (.string n)),
      (1, fun d => ∃ l : List D, (∀ x ∈ l, ∃ n, x = .val (.string n)) ∧ l.length ≤ 2 ^ 63 - 1 ∧ d = .sl false () 1 (sq l))]) Try.underlying29
    ⟨reads_int Try.underlying3, by kernel_rfl, rfl, reads_int Try.underlying3, by kernel_rfl, rfl, reads_int Try.underlying3, by kernel_rfl, rfl, reads_int Try.underlying3, by kernel_rfl, rfl, reads_str Try.underlying9, by kernel_rfl, rfl,
      reads_slice Try.underlying27 (reads_str Try.underlying9) (by kernel_rfl) (by omega), by kernel_rfl, rfl, trivial⟩ (by kernel_rfl)
  refine fun H enc w fuel cs x hx => ?_
  obtain ⟨g, h1, h2, h3, h4, s, h5, a1, t1, rfl, ⟨n1, rfl⟩, a2, t2, rfl, ⟨n2, rfl⟩, a3, t3, rfl, ⟨n3, rfl⟩, a4, t4, rfl, ⟨n4, rfl⟩, a5, t5, rfl, ⟨n5, rfl⟩, a6, t6, rfl, ⟨l, hl, _, rfl⟩, rfl⟩ := h H enc w fuel cs x hx
  obtain ⟨ys, e⟩ := map_strs hl
  exact ⟨g, h1, h2, h3, h4, ⟨n1, n2, n3, n4, n5, ys⟩, by rw [h5, e]; rfl⟩
section
variable {H : Type} {enc : TypeId × Value → H} {w : World} {r : Go.Reach} {b0 : Nat} {v : Value} {d : DataW H} {ps : List MemPlace}
theorem int_of (hv : Value.okWide Try.prog w r b0 3 v) (h : DataW.Trod enc Try.prog w 0 (fun _ => true) true 3 v d ps) :
    ∃ n : Int, Rl w.heap (allB w) [] (.val (.int .i64 n)) true [v] := by
  obtain ⟨n, rfl, _⟩ := ChangeShapes.open_int Try.underlying3 hv h
  exact ⟨n, rfl, rfl⟩
theorem str_of (hv : Value.okWide Try.prog w r b0 9 v) (h : DataW.Trod enc Try.prog w 0 (fun _ => true) true 9 v d ps) :
    ∃ s : ByteArray, Rl w.heap (allB w) [] (.val (.string s)) true [v] := by
  obtain ⟨fuel, h⟩ := h
  have hok : ∃ s, v = .string s := by
    unfold Value.okWide at hv
    rw [Try.underlying9] at hv
    simp only [Cell.okWide, Try.underlying9] at hv
    unfold Cell.ok at hv
    rw [Try.underlying9] at hv
    split at hv <;> try exact hv.elim
    all_goals first
      | (rename_i heq; cases heq; done)
      | exact ⟨_, rfl⟩
  obtain ⟨s, rfl⟩ := hok
  exact ⟨s, rfl, rfl⟩
theorem deeds_of (hv : Value.okWide Try.prog w r b0 22 v) (h : DataW.Trod enc Try.prog w 0 (fun _ => true) true 22 v d ps) :
    ∃ l : List Ld, l.length ≤ 2 ^ 63 - 1 ∧ Rl w.heap (allB w) [] (.imm 6 (dLds l) false) true [v] := by
  obtain ⟨l, h1, h2, h3⟩ := imm_of_trod (z := 6) Try.underlying22 reads_ld (by kernel_rfl) (by omega) hv h
  obtain ⟨ys, rfl⟩ := map_of h1
  exact ⟨ys, by simpa using h2, h3⟩
end
end Go.Proofs.Ytipokdbfdingmaa
