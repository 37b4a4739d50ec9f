/- Both books, played. -/
import Derived.Test.YtipokdbfdingmaaGreatK7
import Derived.Test.YtipokdbfdingmaaGreatK5
import Derived.ChangeMaps5
namespace Go.Proofs.YtipokdbfdingmaaGreat
set_option linter.all false
open Go.Vc Go.Proofs
set_option linter.unusedSimpArgs false
set_option linter.unusedVariables false
set_option maxRecDepth 100000
set_option maxHeartbeats 4000000
attribute [local irreducible] CallW EqK
noncomputable def runL (g : Gb) (L : List Ld) : Gb := bookG g (L.map toG)
theorem runL_snoc (g : Gb) (L : List Ld) (d : Ld) : runL g (L ++ [d]) = (doG (runL g L) (toG d)).1 := by rw [runL, List.map_append, List.map_singleton, bookG_snoc]; rfl
noncomputable def playedOf (L : List Ld) : Gb := runL bornB (L.take 80)
theorem fb_run {n : Nat} {g : Gb} (f : Fb n g) (L : List Ld) : Fb (n + L.length) (runL g L) := by have := fb_book f (L.map toG); rwa [List.length_map] at this
theorem fb_runs (L : List Ld) (i : Nat) (hi : i ≤ 80) : Fb 80 (runL bornB (L.take i)) := Fb.mono (fb_run fb_born (L.take i)) (by rw [List.length_take]; omega)
theorem fb_played (L : List Ld) : Fb 80 (playedOf L) := fb_runs L 80 (by omega)
@[simp high] theorem node_dBk (g : Gb) : isNode (dBk g) = true := rfl
@[simp high] theorem node_eBk (g : Gb) : isNode (eBk g) = true := rfl
theorem played_ok (L : List Ld) (ex : Bool) : Meets Tryz.prog 5 [] (.cons (.imm 6 (dLds L) ex) .nil)
  fun av X κ => av = .tup (.cons (.ptr 0 [.d]) (.cons (.ptr 1 [.d]) (.cons (avBool true) .nil))) ∧ X = [dBk (playedOf L), eBk (playedOf L)] ∧ κ = [] := by
 refine fb Tryz.func5 Tryz.ntmps5 [.tmp 2, .tmp 3, .tmp 4] fun w0 I0 F0 hF => ?_
 repeat first|refine n1 ?_|((first|refine rg 0 [0] [0] [] ?_|refine rg 1 [0] [0, 5] [] ?_);simp (maxSteps := 1000000) [hF])
 refine (new_ok).go [] (by simp (maxSteps := 1000000) [hF]) ?_;rintro av X κ ⟨rfl, rfl, rfl⟩;simp (maxSteps := 1000000) [hF]
 repeat first|refine n1 ?_|(refine rg 2 [0, 5] [0, 5, 6] [] ?_;simp (maxSteps := 1000000) [hF])
 refine (enew_ok).go [] (by simp (maxSteps := 1000000) [hF]) ?_;rintro av X κ ⟨rfl, rfl, rfl⟩;simp (maxSteps := 1000000) [hF]
 repeat first|refine n1 ?_|refine n2 ?_|refine n3 ?_|((first|refine rg 3 [0, 5, 6] [0, 5, 6, 11] [] ?_|refine rg 5 [0, 5, 6] [0, 5, 6, 7] [] ?_|refine nc ?_);simp (maxSteps := 1000000) [hF])
 refine VS.rounds (fun m st => ∃ (i : Nat), i + m = L.length ∧ i ≤ 80 ∧ st = ⟨[(0, .imm 6 (dLds L) ex), (5, .ptr 0 [.d]), (6, .ptr 1 [.d]), (7, avInt i)], [dBk (runL bornB (L.take i)), eBk (runL bornB (L.take i))], [], []⟩) ⟨L.length, 0, by omega, by omega, by simp [runL, bookG]⟩ ?_
 rintro m st ⟨i, hi, hi8, rfl⟩
 have hf := fb_runs L i hi8
 have hend : (L.length ≤ i ∨ i = 80) → playedOf L = runL bornB (L.take i) := by
  rintro (hl | rfl)
  ·rw [playedOf, List.take_of_length_le hl, List.take_of_length_le (by omega)]
  ·rfl
 repeat first|refine n1 ?_|(refine rg 6 [0, 5, 6, 7] [0, 5, 6, 7, 19] [(4, 16)] ?_;simp (maxSteps := 1000000) [hF])
 refine ⟨fun hlt => ?_, fun hge => ?_⟩
 ·repeat first|(refine nc ?_;simp (maxSteps := 1000000) [hF])
  refine ⟨fun h90 => ?_, fun h90 => ?_⟩
  ·have hlt' : i < L.length := by omega
   have hn1 := dLds_nth hlt'
   have hw : IntKind.i64.wrap ((i : Int) + 1) = (i + 1 : Nat) := by rw [IntWalk.i64_in _ (by omega)]; rfl
   have hs := runL_snoc bornB (L.take i) L[i]
   rw [← take_snoc hlt'] at hs
   generalize hH : runL bornB (L.take i) = H at *
   repeat first|refine n1 ?_|refine n2 ?_|refine n3 ?_|(refine rg 8 [0, 5, 6, 7] [0, 5, 6, 7, 29] [] ?_;simp (maxSteps := 1000000) [hF, hn1, hlt'])
   refine (does_ok hf (by omega) L[i]).go [(0, []), (1, [])] (by simp (maxSteps := 1000000) [hF, avLd, dBk, eBk]) ?_;rintro av X κ ⟨rfl, rfl, rfl⟩;simp (maxSteps := 1000000) [hF, avLd, dBk, eBk]
   repeat first|refine n2 ?_|refine n4 ?_|refine n5 ?_|refine n6 ?_|((first|refine rg 7 [0, 5, 6, 7] [0, 5, 6, 7] [] ?_|refine nc ?_);simp (maxSteps := 1000000) [hF, hw])
   refine nextK.of [0, 5, 6, 7] [0, 1] (m - 1) (by omega) (by simp [hF]) ?_
   exact ⟨i + 1, by omega, by omega, by simp [hs, dBk, eBk]⟩
  ·have he := hend (.inr (by omega))
   repeat first|refine n1 ?_|refine n7 ?_|(refine rg 10 [5, 6] [2, 3, 4] [] ?_;simp (maxSteps := 1000000) [hF])
   (try refine nr ?_);(repeat first|refine nb_ ?_|refine nl_ ?_);refine endK.o [2, 3, 4] [0, 1] [] ?_;simp [hF, retK, covers, mpre, he]
 ·have he := hend (.inl (by omega))
  repeat first|refine n1 ?_|refine n7 ?_|((first|refine rg 10 [5, 6] [2, 3, 4] [] ?_|refine nc ?_);simp (maxSteps := 1000000) [hF])
  (try refine nr ?_);(repeat first|refine nb_ ?_|refine nl_ ?_);refine endK.o [2, 3, 4] [0, 1] [] ?_;simp [hF, retK, covers, mpre, he]
end Go.Proofs.YtipokdbfdingmaaGreat

/- The arguments of the laws: numbers, texts, deeds. -/
namespace Go.Proofs.YtipokdbfdingmaaGreat
set_option linter.all false
open Go.Vc Go.Proofs Go
set_option maxRecDepth 100000
theorem map_strs {l : List D} (h : ∀ x ∈ l, ∃ n, x = .val (.string n)) : ∃ ys : List ByteArray, sq l = strs ys := by
  obtain ⟨ys, rfl⟩ := map_of (f := fun n => (.val (.string n) : D)) h
  exact ⟨ys, rfl⟩
theorem reads_ld : Reads Tryz.prog 35 6 fun d => ∃ x, d = dLd x := by
  have h := reads_struct (gs := [(1, fun d => ∃ n, d = .val (.int .i64 n)), (1, fun d => ∃ n, d = .val (.int .i64 n)), (1, fun d => ∃ n, d = .val (.int .i64 n)), (1, fun d => ∃ n, d = .val (.int .i64 n)), (1, fun d => ∃ n, d = .val (.string n)),
      (1, fun d => ∃ l : List D, (∀ x ∈ l, ∃ n, x = .val (.string n)) ∧ l.length ≤ 2 ^ 63 - 1 ∧ d = .sl false () 1 (sq l))]) Tryz.underlying35
    ⟨reads_int Tryz.underlying3, by kernel_rfl, rfl, reads_int Tryz.underlying3, by kernel_rfl, rfl, reads_int Tryz.underlying3, by kernel_rfl, rfl, reads_int Tryz.underlying3, by kernel_rfl, rfl, reads_str Tryz.underlying9, by kernel_rfl, rfl,
      reads_slice Tryz.underlying33 (reads_str Tryz.underlying9) (by kernel_rfl) (by omega), by kernel_rfl, rfl, trivial⟩ (by kernel_rfl)
  refine fun H enc w fuel cs x hx => ?_
  obtain ⟨g, h1, h2, h3, h4, s, h5, a1, t1, rfl, ⟨n1, rfl⟩, a2, t2, rfl, ⟨n2, rfl⟩, a3, t3, rfl, ⟨n3, rfl⟩, a4, t4, rfl, ⟨n4, rfl⟩, a5, t5, rfl, ⟨n5, rfl⟩, a6, t6, rfl, ⟨l, hl, _, rfl⟩, rfl⟩ := h H enc w fuel cs x hx
  obtain ⟨ys, e⟩ := map_strs hl
  exact ⟨g, h1, h2, h3, h4, ⟨n1, n2, n3, n4, n5, ys⟩, by rw [h5, e]; rfl⟩
section
variable {H : Type} {enc : TypeId × Value → H} {w : World} {r : Go.Reach} {b0 : Nat} {v : Value} {d : DataW H} {ps : List MemPlace}
theorem deeds_of (hv : Value.okWide Tryz.prog w r b0 22 v) (h : DataW.Trod enc Tryz.prog w 0 (fun _ => true) true 22 v d ps) :
    ∃ l : List Ld, l.length ≤ 2 ^ 63 - 1 ∧ Rl w.heap (allB w) [] (.imm 6 (dLds l) false) true [v] := by
  obtain ⟨l, h1, h2, h3⟩ := imm_of_trod (z := 6) Tryz.underlying22 reads_ld (by kernel_rfl) (by omega) hv h
  obtain ⟨ys, rfl⟩ := map_of h1
  exact ⟨ys, by simpa using h2, h3⟩
end
end Go.Proofs.YtipokdbfdingmaaGreat
