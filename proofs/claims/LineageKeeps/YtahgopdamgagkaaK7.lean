/- The arguments of the laws: numbers, deeds. -/
import Derived.Test.YtahgopdamgagkaaK5
import Derived.Test.YtahgopdamgagkaaK6
import Derived.ChangeMaps5
namespace Go.Proofs.Ytahgopdamgagkaa
set_option linter.all false
open Go.Vc Go.Proofs Go

theorem reads_deed : Reads Try.prog 34 3 fun d => ∃ x, d = dDeed x := by
  have h := reads_struct (gs := [(1, fun d => ∃ n, d = .val (.int .i64 n)), (1, fun d => ∃ n, d = .val (.int .i64 n)), (1, fun d => ∃ n, d = .val (.int .i64 n))]) Try.underlying34
    ⟨reads_int Try.underlying3, by kernel_rfl, rfl, reads_int Try.underlying3, by kernel_rfl, rfl, reads_int Try.underlying3, by kernel_rfl, rfl, trivial⟩ (by kernel_rfl)
  refine fun H enc w fuel cs x hx => ?_
  obtain ⟨g, h1, h2, h3, h4, s, h5, a1, t1, rfl, ⟨n1, rfl⟩, a2, t2, rfl, ⟨n2, rfl⟩, a3, t3, rfl, ⟨n3, rfl⟩, rfl⟩ := h H enc w fuel cs x hx
  exact ⟨g, h1, h2, h3, h4, ⟨n1, n2, n3⟩, h5⟩

section
variable {H : Type} {enc : TypeId × Value → H} {w : World} {r : Go.Reach} {b0 : Nat} {v : Value} {d : DataW H} {ps : List MemPlace}
theorem deeds_of (hv : Value.okWide Try.prog w r b0 22 v) (h : DataW.Trod enc Try.prog w 0 (fun _ => true) true 22 v d ps) :
    ∃ l : List Deed, l.length ≤ 2 ^ 63 - 1 ∧ Rl w.heap (allB w) [] (.imm 3 (dDeeds l) false) true [v] := by
  obtain ⟨l, h1, h2, h3⟩ := imm_of_trod (z := 3) Try.underlying22 reads_deed (by kernel_rfl) (by omega) hv h
  obtain ⟨ys, rfl⟩ := map_of h1
  exact ⟨ys, by simpa using h2, h3⟩
theorem int_of (hv : Value.okWide Try.prog w r b0 3 v) (h : DataW.Trod enc Try.prog w 0 (fun _ => true) true 3 v d ps) :
    ∃ n : Int, Rl w.heap (allB w) [] (.val (.int .i64 n)) true [v] := by
  obtain ⟨n, rfl, _⟩ := ChangeShapes.open_int Try.underlying3 hv h
  exact ⟨n, rfl, rfl⟩
theorem deed_of (hv : Value.okWide Try.prog w r b0 34 v) (h : DataW.Trod enc Try.prog w 0 (fun _ => true) true 34 v d ps) :
    ∃ x : Deed, Rl w.heap (allB w) [] (avDeed x) true [v] := by
  obtain ⟨fuel, h⟩ := h
  obtain ⟨cs, rfl, _⟩ : ∃ cs, v = .agg cs ∧ True := by
    unfold Value.okWide at hv
    rw [Try.underlying34] at hv
    obtain ⟨cs, h1, _⟩ := hv
    exact ⟨cs, h1, trivial⟩
  obtain ⟨g, h1, h2, h3, h4, x, h5⟩ := reads_deed H enc w fuel _ _ h
  have hcs : cs.toList = [.int .i64 x.op, .int .i64 x.a, .int .i64 x.b] := by
    obtain ⟨s, rfl, h6⟩ := erase_agg h5
    obtain ⟨a1, t1, rfl, k1, q1⟩ := erase_cons h6
    obtain ⟨a2, t2, rfl, k2, q2⟩ := erase_cons q1
    obtain ⟨a3, t3, rfl, k3, q3⟩ := erase_cons q2
    obtain rfl := erase_val k1
    obtain rfl := erase_val k2
    obtain rfl := erase_val k3
    obtain rfl := erase_nil q3
    have h7 : (Value.agg cs).cells.toList = cs.toList := rfl
    rw [h7] at h3
    rw [← h3]
    rfl
  exact ⟨x, cs.toList, by simp, [.int .i64 x.op], _, hcs, ⟨rfl, rfl⟩, [.int .i64 x.a], _, rfl, ⟨rfl, rfl⟩, [.int .i64 x.b], _, rfl, ⟨rfl, rfl⟩, rfl⟩
end
end Go.Proofs.Ytahgopdamgagkaa
