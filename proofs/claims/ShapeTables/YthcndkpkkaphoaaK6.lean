/- The arguments of the laws: numbers, texts, deeds. -/
import Derived.Test.YthcndkpkkaphoaaK4
import Derived.Test.YthcndkpkkaphoaaK5
import Derived.ChangeMaps5
import Derived.Test.YthcndkpkkaphoaaRows
import Derived.WalkKit
import Derived.ProofKit
import Derived.OpenShut
import Derived.ShutString
import Derived.ChangeOld
import Derived.Carry
namespace Go.Proofs.Ythcndkpkkaphoaa
set_option linter.all false
open Go.Vc Go.Proofs Go

theorem reads_deed : Reads Try.prog 40 4 fun d => ∃ x, d = dDeed x := by
  have h := reads_struct (gs := [(1, fun d => ∃ n, d = .val (.int .i64 n)), (1, fun d => ∃ n, d = .val (.int .i64 n)), (1, fun d => ∃ s, d = .val (.string s)), (1, fun d => ∃ n, d = .val (.int .i64 n))]) Try.underlying40
    ⟨reads_int Try.underlying3, by kernel_rfl, rfl, reads_int Try.underlying3, by kernel_rfl, rfl, reads_str Try.underlying9, by kernel_rfl, rfl, reads_int Try.underlying3, by kernel_rfl, rfl, trivial⟩ (by kernel_rfl)
  refine fun H enc w fuel cs x hx => ?_
  obtain ⟨g, h1, h2, h3, h4, s, h5, a1, t1, rfl, ⟨n1, rfl⟩, a2, t2, rfl, ⟨n2, rfl⟩, a3, t3, rfl, ⟨s3, rfl⟩, a4, t4, rfl, ⟨n4, rfl⟩, rfl⟩ := h H enc w fuel cs x hx
  exact ⟨g, h1, h2, h3, h4, ⟨n1, n2, s3, n4⟩, h5⟩

section
variable {H : Type} {enc : TypeId × Value → H} {w : World} {r : Reach} {b0 : Nat} {v : Value} {d : DataW H} {ps : List MemPlace}
theorem deeds_of (hv : Value.okWide Try.prog w r b0 37 v) (h : DataW.Trod enc Try.prog w 0 (fun _ => true) true 37 v d ps) :
    ∃ l : List Deed, l.length ≤ 2 ^ 63 - 1 ∧ Rl w.heap (allB w) [] (.imm 4 (dDeeds l) false) true [v] := by
  obtain ⟨l, h1, h2, h3⟩ := imm_of_trod (z := 4) Try.underlying37 reads_deed (by kernel_rfl) (by omega) hv h
  obtain ⟨ys, rfl⟩ := map_of h1
  exact ⟨ys, by simpa using h2, h3⟩
theorem ints_of (hv : Value.okWide Try.prog w r b0 43 v) (h : DataW.Trod enc Try.prog w 0 (fun _ => true) true 43 v d ps) :
    ∃ l : List Int, l.length ≤ 2 ^ 63 - 1 ∧ Rl w.heap (allB w) [] (.imm 1 (dInts l) false) true [v] := by
  obtain ⟨l, h1, h2, h3⟩ := imm_of_trod (z := 1) Try.underlying43 (reads_int Try.underlying3) (by kernel_rfl) (by omega) hv h
  obtain ⟨ys, rfl⟩ := map_of (f := fun n => (.val (.int .i64 n) : D)) h1
  exact ⟨ys, by simpa using h2, h3⟩
theorem int_of (hv : Value.okWide Try.prog w r b0 3 v) (h : DataW.Trod enc Try.prog w 0 (fun _ => true) true 3 v d ps) :
    ∃ n : Int, Rl w.heap (allB w) [] (.val (.int .i64 n)) true [v] := by
  obtain ⟨n, rfl, _⟩ := ChangeShapes.open_int Try.underlying3 hv h
  exact ⟨n, rfl, rfl⟩
theorem str_of (hv : Value.okWide Try.prog w r b0 9 v) (h : DataW.Trod enc Try.prog w 0 (fun _ => true) true 9 v d ps) :
    ∃ s : ByteArray, Rl w.heap (allB w) [] (.val (.string s)) true [v] := by
  obtain ⟨fuel, h⟩ := h
  have hok : ∃ s, v = .string s := by
    unfold Value.okWide at hv
    rw [Try.underlying9] at hv
    simp only [Cell.okWide, Try.underlying9] at hv
    unfold Cell.ok at hv
    rw [Try.underlying9] at hv
    split at hv <;> try exact hv.elim
    all_goals first
      | (rename_i heq; cases heq; done)
      | exact ⟨_, rfl⟩
  obtain ⟨s, rfl⟩ := hok
  exact ⟨s, rfl, rfl⟩
theorem deed_of (hv : Value.okWide Try.prog w r b0 40 v) (h : DataW.Trod enc Try.prog w 0 (fun _ => true) true 40 v d ps) :
    ∃ x : Deed, Rl w.heap (allB w) [] (avDeed x) true [v] := by
  obtain ⟨fuel, h⟩ := h
  obtain ⟨cs, rfl, _⟩ : ∃ cs, v = .agg cs ∧ True := by
    unfold Value.okWide at hv
    rw [Try.underlying40] at hv
    obtain ⟨cs, h1, _⟩ := hv
    exact ⟨cs, h1, trivial⟩
  obtain ⟨g, h1, h2, h3, h4, x, h5⟩ := reads_deed H enc w fuel _ _ h
  have hcs : cs.toList = [.int .i64 x.op, .int .i64 x.obj, .string x.name, .int .i64 x.word] := by
    obtain ⟨s, rfl, h6⟩ := erase_agg h5
    obtain ⟨a1, t1, rfl, k1, q1⟩ := erase_cons h6
    obtain ⟨a2, t2, rfl, k2, q2⟩ := erase_cons q1
    obtain ⟨a3, t3, rfl, k3, q3⟩ := erase_cons q2
    obtain ⟨a4, t4, rfl, k4, q4⟩ := erase_cons q3
    obtain rfl := erase_val k1
    obtain rfl := erase_val k2
    obtain rfl := erase_val k3
    obtain rfl := erase_val k4
    obtain rfl := erase_nil q4
    have h7 : (Value.agg cs).cells.toList = cs.toList := rfl
    rw [h7] at h3
    rw [← h3]
    rfl
  exact ⟨x, cs.toList, by simp, [.int .i64 x.op], _, hcs, ⟨rfl, rfl⟩, [.int .i64 x.obj], _, rfl, ⟨rfl, rfl⟩, [.string x.name], _, rfl, ⟨rfl, rfl⟩, [.int .i64 x.word], _, rfl, ⟨rfl, rfl⟩, rfl⟩
end
end Go.Proofs.Ythcndkpkkaphoaa

/- Proved: ShapeTables returns true for every input, and its arguments read behind the call as before. No condition. -/
namespace Go.Proofs.Ythcndkpkkaphoaa.shapeTables
set_option linter.all false
open Go.Vc Go.ChangeShapes Go.WideShapes Go.ChangeAt Go.RowKit
set_option linter.unusedVariables false

theorem own : ownKnob Try.prog.godebug = none := by kernel_rfl
theorem laid : laidOutB Try.prog = true := by kernel_rfl

set_option maxRecDepth 100000 in
theorem lifted (os : Os) (started : os.Started) (H : Type) (enc : TypeId × Value → H) :
    ReturnsInHanded {} Try.checked os 4 .any (Rows.shapeTablesSpec.pre6 enc Try.prog Try.f4 Rows.shapeTablesRow.domain false) (Rows.shapeTablesSpec.post enc Try.prog Try.f4 false true false false) := by
  refine returnsInHanded_of_change (C := Try.checked) own started (by kernel_rfl) Try.func4
    (ChangeSpec.witness6 (enc := enc) (C := Try.checked) false ⟨#[], #[.slice none 0 0], []⟩ 8 (by kernel_rfl) (by kernel_rfl) (by kernel_rfl) (by kernel_rfl)) ?_
  intro W base args ds gs before hval0 hW hcnd _
  have hval : ∀ (j : Nat) t v, Try.f4.params[j]? = some t → args[j]? = some v → Value.okWide Try.prog W .any base t v := hval0
  have hW' := hW
  obtain ⟨p, q, hA0, hV, rfl, hfz, hnd⟩ := hW
  have hA : DataW.TrodAll enc Try.prog W 0 (fun _ => true) true Try.f4.params.toList args.toList ds p := hA0
  rw [Try.params4] at hA hval
  obtain ⟨v0, vs0, d0, ds0, p0, q0, hargs0, rfl, rfl, h0, r0⟩ := trodAll_cons hA
  obtain ⟨rfl, rfl, rfl⟩ := trodAll_nil r0
  obtain rfl : args = #[v0] := by cases args; simp_all
  obtain ⟨rfl, rfl⟩ := trodVars_none hV
  obtain ⟨a0, hlen0, hr0⟩ := deeds_of (hval 0 37 v0 rfl rfl) h0
  clear hA0 hval0
  have hwalk : Calls Try.prog 4 #[v0] W fun e w' => e = .returned (.bool true) ∧ Below W.heap.size W w' :=
    Meets.law (tables_ok false a0) (vs := [v0]) (I := allB W) (fun _ h => h) ⟨v0, _, rfl, hr0, rfl⟩
  refine hwalk.mono fun e W' ⟨he, bel⟩ => ?_
  subst he
  exact ⟨_, rfl, _, _, _, [], _, [], hW', trodAll_mk1 (shut_bool Try.underlying4 _), (trodAll_cons_mk (Below.trod laid (by kernel_rfl) (of_decide_eq_true (by kernel_rfl)) h0 bel fun x hx => hW'.lt x (by simp [hx])) trodAll_mk0), rfl, bel.frame _, fun h => by cases h⟩

theorem over : Rows.shapeTablesRow.holds Try.pinned (OpenSpec.ofChange Rows.shapeTablesSpec) :=
  OpenClaim.holds_of_wide 4 Try.f4 rfl rfl rfl rfl rfl rfl rfl ⟨rfl, rfl, rfl, rfl, rfl⟩ rfl rfl rfl rfl rfl (by kernel_rfl) Try.func4 (by kernel_rfl)
    (of_decide_eq_true (by kernel_rfl)) (by unfold Func.isWrapper; first | (rw [if_pos (by decide +kernel)]; kernel_rfl) | (rw [if_neg (by decide +kernel)]; exact ⟨rfl, rfl⟩))
    (fun os started H enc _ => lifted os started H enc)

/-- THE STATEMENT -/
theorem proved : Rows.ShapeTablesSaid :=
  over
end Go.Proofs.Ythcndkpkkaphoaa.shapeTables
