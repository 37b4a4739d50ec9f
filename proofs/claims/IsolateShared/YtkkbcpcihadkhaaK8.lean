/- The arguments of the laws: numbers. -/
import Derived.Test.YtkkbcpcihadkhaaK5
import Derived.Test.YtkkbcpcihadkhaaK7
import Derived.ChangeMaps5
namespace Go.Proofs.Ytkkbcpcihadkhaa
set_option linter.all false
open Go.Vc Go.Proofs Go
set_option maxRecDepth 100000
section
variable {H : Type} {enc : TypeId × Value → H} {w : World} {r : Go.Reach} {b0 : Nat} {v : Value} {d : DataW H} {ps : List MemPlace}
theorem int_of (hv : Value.okWide Try.prog w r b0 3 v) (h : DataW.Trod enc Try.prog w 0 (fun _ => true) true 3 v d ps) :
    ∃ n : Int, Rl w.heap (allB w) [] (.val (.int .i64 n)) true [v] := by
  obtain ⟨n, rfl, _⟩ := ChangeShapes.open_int Try.underlying3 hv h
  exact ⟨n, rfl, rfl⟩
end
end Go.Proofs.Ytkkbcpcihadkhaa

/- The arguments of the laws: deeds, questions. -/
namespace Go.Proofs.Ytkkbcpcihadkhaa
set_option linter.all false
open Go.Vc Go.Proofs Go
set_option maxRecDepth 100000
theorem map_ints {l : List D} (h : ∀ x ∈ l, ∃ n, x = .val (.int .i64 n)) : ∃ ys : List Int, sq l = dInts ys := by
  obtain ⟨ys, rfl⟩ := map_of (f := fun n => (.val (.int .i64 n) : D)) h
  exact ⟨ys, rfl⟩
theorem reads_ld : Reads Try.prog 52 6 fun d => ∃ x, d = dLd x := by
  have h := reads_struct (gs := [(1, fun d => ∃ n, d = .val (.int .i64 n)), (1, fun d => ∃ n, d = .val (.int .i64 n)), (1, fun d => ∃ n, d = .val (.int .i64 n)), (1, fun d => ∃ n, d = .val (.int .i64 n)), (1, fun d => ∃ n, d = .val (.int .i64 n)),
      (1, fun d => ∃ l : List D, (∀ x ∈ l, ∃ n, x = .val (.int .i64 n)) ∧ l.length ≤ 2 ^ 63 - 1 ∧ d = .sl false () 1 (sq l))]) Try.underlying52
    ⟨reads_int Try.underlying3, by kernel_rfl, rfl, reads_int Try.underlying3, by kernel_rfl, rfl, reads_int Try.underlying3, by kernel_rfl, rfl, reads_int Try.underlying3, by kernel_rfl, rfl, reads_int Try.underlying3, by kernel_rfl, rfl,
      reads_slice Try.underlying45 (reads_int Try.underlying3) (by kernel_rfl) (by omega), by kernel_rfl, rfl, trivial⟩ (by kernel_rfl)
  refine fun H enc w fuel cs x hx => ?_
  obtain ⟨g, h1, h2, h3, h4, s, h5, a1, t1, rfl, ⟨n1, rfl⟩, a2, t2, rfl, ⟨n2, rfl⟩, a3, t3, rfl, ⟨n3, rfl⟩, a4, t4, rfl, ⟨n4, rfl⟩, a5, t5, rfl, ⟨n5, rfl⟩, a6, t6, rfl, ⟨l, hl, _, rfl⟩, rfl⟩ := h H enc w fuel cs x hx
  obtain ⟨ys, e⟩ := map_ints hl
  exact ⟨g, h1, h2, h3, h4, ⟨n1, n2, n3, n4, n5, ys⟩, by rw [h5, e]; rfl⟩
theorem reads_ask : Reads Try.prog 24 3 fun d => ∃ a b c : Int, d = .agg (.cons (.val (.int .i64 a)) (.cons (.val (.int .i64 b)) (.cons (.val (.int .i64 c)) .nil))) := by
  have h := reads_struct (gs := [(1, fun d => ∃ n, d = .val (.int .i64 n)), (1, fun d => ∃ n, d = .val (.int .i64 n)), (1, fun d => ∃ n, d = .val (.int .i64 n))]) Try.underlying24
    ⟨reads_int Try.underlying3, by kernel_rfl, rfl, reads_int Try.underlying3, by kernel_rfl, rfl, reads_int Try.underlying3, by kernel_rfl, rfl, trivial⟩ (by kernel_rfl)
  refine fun H enc w fuel cs x hx => ?_
  obtain ⟨g, h1, h2, h3, h4, s, h5, a1, t1, rfl, ⟨n1, rfl⟩, a2, t2, rfl, ⟨n2, rfl⟩, a3, t3, rfl, ⟨n3, rfl⟩, rfl⟩ := h H enc w fuel cs x hx
  exact ⟨g, h1, h2, h3, h4, n1, n2, n3, h5⟩
section
variable {H : Type} {enc : TypeId × Value → H} {w : World} {r : Go.Reach} {b0 : Nat} {v : Value} {d : DataW H} {ps : List MemPlace}
theorem deeds_of (hv : Value.okWide Try.prog w r b0 22 v) (h : DataW.Trod enc Try.prog w 0 (fun _ => true) true 22 v d ps) :
    ∃ l : List Ld, l.length ≤ 2 ^ 63 - 1 ∧ Rl w.heap (allB w) [] (.imm 6 (dLds l) false) true [v] := by
  obtain ⟨l, h1, h2, h3⟩ := imm_of_trod (z := 6) Try.underlying22 reads_ld (by kernel_rfl) (by omega) hv h
  obtain ⟨ys, rfl⟩ := map_of h1
  exact ⟨ys, by simpa using h2, h3⟩
theorem ask_of (hv : Value.okWide Try.prog w r b0 24 v) (h : DataW.Trod enc Try.prog w 0 (fun _ => true) true 24 v d ps) :
    ∃ x : Int × Int × Int, Rl w.heap (allB w) [] (.agg (.cons (.val (.int .i64 x.1)) (.cons (.val (.int .i64 x.2.1)) (.cons (.val (.int .i64 x.2.2)) .nil)))) true [v] := by
  obtain ⟨fuel, h⟩ := h
  obtain ⟨cs, rfl, _⟩ : ∃ cs, v = .agg cs ∧ True := by
    unfold Value.okWide at hv
    rw [Try.underlying24] at hv
    obtain ⟨cs, h1, _⟩ := hv
    exact ⟨cs, h1, trivial⟩
  obtain ⟨g, h1, h2, h3, h4, a, b, c, h5⟩ := reads_ask H enc w fuel _ _ h
  have hcs : cs.toList = [.int .i64 a, .int .i64 b, .int .i64 c] := by
    obtain ⟨s, rfl, h6⟩ := erase_agg h5
    obtain ⟨a1, t1, rfl, k1, q1⟩ := erase_cons h6
    obtain ⟨a2, t2, rfl, k2, q2⟩ := erase_cons q1
    obtain ⟨a3, t3, rfl, k3, q3⟩ := erase_cons q2
    obtain rfl := erase_val k1
    obtain rfl := erase_val k2
    obtain rfl := erase_val k3
    obtain rfl := erase_nil q3
    have h7 : (Value.agg cs).cells.toList = cs.toList := rfl
    rw [h7] at h3
    rw [← h3]
    rfl
  exact ⟨(a, b, c), cs.toList, by simp, [.int .i64 a], _, hcs, ⟨rfl, rfl⟩, [.int .i64 b], _, rfl, ⟨rfl, rfl⟩, [.int .i64 c], _, rfl, ⟨rfl, rfl⟩, rfl⟩
end
end Go.Proofs.Ytkkbcpcihadkhaa
