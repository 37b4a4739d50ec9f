/-
  No cell of these rows narrows 'for every input' (looked for: loops, veiled, ifaces, maps, wideKeys, modest, calm, conditions, laid).
  DERIVED. THE GIVEN ROWS OF THIS SEAT. 9 by the template 'for every input the law returns true; each argument reads behind the call as it read before'; 0 by the template 'total and deterministic' (their statements: YthcndkpkkaphoaaTotals.lean).
  GIVEN WITH THE SEED: the statements are not yours to turn. If you find one false, say at which input.
  Laid BY PROGRAM, IN A SANDBOX (cutbox-rows.mjs): the forced cells as the released guide's own fill.sh prints them over the translation ab223f1dc931e2c8… (all of the seat's roots in one cut). By AI agents, Wed Nov 11 2026. No macro, syntax, notation, axiom, sorry.
-/
import Derived.Test.YthcndkpkkaphoaaChecked
import GoSem.Claim
import GoSem.ClaimJoined
import GoSem.ClaimMapViews
import Derived.JoinedTies
import Derived.KernelRfl
namespace Go.Proofs.Ythcndkpkkaphoaa
/- THE CELL 'sum', in the pinned program and in every row, IS THE sha256 OF THE DUMP (.gsa) THAT YthcndkpkkaphoaaProg.lean LOADS. Nothing in Lean hashes anything: it is a label: what it is worth is what the hold of that sum in a sandbox is worth. -/
noncomputable def Try.pinned : Pinned := { name := "ythcndkpkkaphoaa", sum := "ab223f1dc931e2c8be65c96071acc16eca1c8ae8c8bfea0df225af15555d394b", checked := Try.checked }
namespace Rows
def none {H : Type} : Left H := { results := [], args := [] }

/-- 'cabochonlaw20.ShapeFull': WHATEVER THE INPUT: true; the input reads as it did. -/
def shapeFullSpec : ChangeSpec := { name := "shapeFull", fn := fun _ => fun
  | [d] => { results := [.lit (.bool true)], args := [d] }
  | _ => none }
def shapeFullRow : OpenClaim := { program := "ythcndkpkkaphoaa", sum := "ab223f1dc931e2c8be65c96071acc16eca1c8ae8c8bfea0df225af15555d394b", func := "cabochon/cabochonlaw20.ShapeFull", spec := "shapeFull", apart := false }
def ShapeFullSaid : Prop := shapeFullRow.holds Try.pinned (OpenSpec.ofChange shapeFullSpec)

/-- ITS FALSE NEIGHBOUR: 'it returns false'. Refute it at one input. -/
def shapeFullWrong : ChangeSpec := { name := "shapeFull", fn := fun _ => fun
  | [d] => { results := [.lit (.bool false)], args := [d] }
  | _ => none }
def ShapeFullWrongFalsely : Prop := shapeFullRow.holds Try.pinned (OpenSpec.ofChange shapeFullWrong)

/-- 'cabochonlaw20.ShapeTables': WHATEVER THE INPUT: true; the input reads as it did. -/
def shapeTablesSpec : ChangeSpec := { name := "shapeTables", fn := fun _ => fun
  | [d] => { results := [.lit (.bool true)], args := [d] }
  | _ => none }
def shapeTablesRow : OpenClaim := { program := "ythcndkpkkaphoaa", sum := "ab223f1dc931e2c8be65c96071acc16eca1c8ae8c8bfea0df225af15555d394b", func := "cabochon/cabochonlaw20.ShapeTables", spec := "shapeTables", apart := false }
def ShapeTablesSaid : Prop := shapeTablesRow.holds Try.pinned (OpenSpec.ofChange shapeTablesSpec)

/-- ITS FALSE NEIGHBOUR: 'it returns false'. Refute it at one input. -/
def shapeTablesWrong : ChangeSpec := { name := "shapeTables", fn := fun _ => fun
  | [d] => { results := [.lit (.bool false)], args := [d] }
  | _ => none }
def ShapeTablesWrongFalsely : Prop := shapeTablesRow.holds Try.pinned (OpenSpec.ofChange shapeTablesWrong)

/-- 'cabochonlaw20.ShapeAlike': WHATEVER THE INPUT: true; the input reads as it did. -/
def shapeAlikeSpec : ChangeSpec := { name := "shapeAlike", fn := fun _ => fun
  | [d1, d2] => { results := [.lit (.bool true)], args := [d1, d2] }
  | _ => none }
def shapeAlikeRow : OpenClaim := { program := "ythcndkpkkaphoaa", sum := "ab223f1dc931e2c8be65c96071acc16eca1c8ae8c8bfea0df225af15555d394b", func := "cabochon/cabochonlaw20.ShapeAlike", spec := "shapeAlike", apart := false }
def ShapeAlikeSaid : Prop := shapeAlikeRow.holds Try.pinned (OpenSpec.ofChange shapeAlikeSpec)

/-- ITS FALSE NEIGHBOUR: 'it returns false'. Refute it at one input. -/
def shapeAlikeWrong : ChangeSpec := { name := "shapeAlike", fn := fun _ => fun
  | [d1, d2] => { results := [.lit (.bool false)], args := [d1, d2] }
  | _ => none }
def ShapeAlikeWrongFalsely : Prop := shapeAlikeRow.holds Try.pinned (OpenSpec.ofChange shapeAlikeWrong)

/-- 'cabochonlaw20.ShapeStays': WHATEVER THE INPUT: true; the input reads as it did. -/
def shapeStaysSpec : ChangeSpec := { name := "shapeStays", fn := fun _ => fun
  | [d1, d2, d3] => { results := [.lit (.bool true)], args := [d1, d2, d3] }
  | _ => none }
def shapeStaysRow : OpenClaim := { program := "ythcndkpkkaphoaa", sum := "ab223f1dc931e2c8be65c96071acc16eca1c8ae8c8bfea0df225af15555d394b", func := "cabochon/cabochonlaw20.ShapeStays", spec := "shapeStays", apart := false }
def ShapeStaysSaid : Prop := shapeStaysRow.holds Try.pinned (OpenSpec.ofChange shapeStaysSpec)

/-- ITS FALSE NEIGHBOUR: 'it returns false'. Refute it at one input. -/
def shapeStaysWrong : ChangeSpec := { name := "shapeStays", fn := fun _ => fun
  | [d1, d2, d3] => { results := [.lit (.bool false)], args := [d1, d2, d3] }
  | _ => none }
def ShapeStaysWrongFalsely : Prop := shapeStaysRow.holds Try.pinned (OpenSpec.ofChange shapeStaysWrong)

/-- 'cabochonlaw20.ShapeClones': WHATEVER THE INPUT: true; the input reads as it did. -/
def shapeClonesSpec : ChangeSpec := { name := "shapeClones", fn := fun _ => fun
  | [d1, d2, d3] => { results := [.lit (.bool true)], args := [d1, d2, d3] }
  | _ => none }
def shapeClonesRow : OpenClaim := { program := "ythcndkpkkaphoaa", sum := "ab223f1dc931e2c8be65c96071acc16eca1c8ae8c8bfea0df225af15555d394b", func := "cabochon/cabochonlaw20.ShapeClones", spec := "shapeClones", apart := false }
def ShapeClonesSaid : Prop := shapeClonesRow.holds Try.pinned (OpenSpec.ofChange shapeClonesSpec)

/-- ITS FALSE NEIGHBOUR: 'it returns false'. Refute it at one input. -/
def shapeClonesWrong : ChangeSpec := { name := "shapeClones", fn := fun _ => fun
  | [d1, d2, d3] => { results := [.lit (.bool false)], args := [d1, d2, d3] }
  | _ => none }
def ShapeClonesWrongFalsely : Prop := shapeClonesRow.holds Try.pinned (OpenSpec.ofChange shapeClonesWrong)

/-- 'cabochonlaw20.ShapeCopies': WHATEVER THE INPUT: true; the input reads as it did. -/
def shapeCopiesSpec : ChangeSpec := { name := "shapeCopies", fn := fun _ => fun
  | [d1, d2] => { results := [.lit (.bool true)], args := [d1, d2] }
  | _ => none }
def shapeCopiesRow : OpenClaim := { program := "ythcndkpkkaphoaa", sum := "ab223f1dc931e2c8be65c96071acc16eca1c8ae8c8bfea0df225af15555d394b", func := "cabochon/cabochonlaw20.ShapeCopies", spec := "shapeCopies", apart := false }
def ShapeCopiesSaid : Prop := shapeCopiesRow.holds Try.pinned (OpenSpec.ofChange shapeCopiesSpec)

/-- ITS FALSE NEIGHBOUR: 'it returns false'. Refute it at one input. -/
def shapeCopiesWrong : ChangeSpec := { name := "shapeCopies", fn := fun _ => fun
  | [d1, d2] => { results := [.lit (.bool false)], args := [d1, d2] }
  | _ => none }
def ShapeCopiesWrongFalsely : Prop := shapeCopiesRow.holds Try.pinned (OpenSpec.ofChange shapeCopiesWrong)

/-- 'cabochonlaw20.ShapeNothing': WHATEVER THE INPUT: true; the input reads as it did. -/
def shapeNothingSpec : ChangeSpec := { name := "shapeNothing", fn := fun _ => fun
  | [d] => { results := [.lit (.bool true)], args := [d] }
  | _ => none }
def shapeNothingRow : OpenClaim := { program := "ythcndkpkkaphoaa", sum := "ab223f1dc931e2c8be65c96071acc16eca1c8ae8c8bfea0df225af15555d394b", func := "cabochon/cabochonlaw20.ShapeNothing", spec := "shapeNothing", apart := false }
def ShapeNothingSaid : Prop := shapeNothingRow.holds Try.pinned (OpenSpec.ofChange shapeNothingSpec)

/-- ITS FALSE NEIGHBOUR: 'it returns false'. Refute it at one input. -/
def shapeNothingWrong : ChangeSpec := { name := "shapeNothing", fn := fun _ => fun
  | [d] => { results := [.lit (.bool false)], args := [d] }
  | _ => none }
def ShapeNothingWrongFalsely : Prop := shapeNothingRow.holds Try.pinned (OpenSpec.ofChange shapeNothingWrong)

/-- 'cabochonlaw20.ShapeSlots': WHATEVER THE INPUT: true; the input reads as it did. -/
def shapeSlotsSpec : ChangeSpec := { name := "shapeSlots", fn := fun _ => fun
  | [d] => { results := [.lit (.bool true)], args := [d] }
  | _ => none }
def shapeSlotsRow : OpenClaim := { program := "ythcndkpkkaphoaa", sum := "ab223f1dc931e2c8be65c96071acc16eca1c8ae8c8bfea0df225af15555d394b", func := "cabochon/cabochonlaw20.ShapeSlots", spec := "shapeSlots", apart := false }
def ShapeSlotsSaid : Prop := shapeSlotsRow.holds Try.pinned (OpenSpec.ofChange shapeSlotsSpec)

/-- ITS FALSE NEIGHBOUR: 'it returns false'. Refute it at one input. -/
def shapeSlotsWrong : ChangeSpec := { name := "shapeSlots", fn := fun _ => fun
  | [d] => { results := [.lit (.bool false)], args := [d] }
  | _ => none }
def ShapeSlotsWrongFalsely : Prop := shapeSlotsRow.holds Try.pinned (OpenSpec.ofChange shapeSlotsWrong)

/-- 'cabochonlaw20.ShapePlays': WHATEVER THE INPUT: true; the input reads as it did. -/
def shapePlaysSpec : ChangeSpec := { name := "shapePlays", fn := fun _ => fun
  | [d1, d2, d3] => { results := [.lit (.bool true)], args := [d1, d2, d3] }
  | _ => none }
def shapePlaysRow : OpenClaim := { program := "ythcndkpkkaphoaa", sum := "ab223f1dc931e2c8be65c96071acc16eca1c8ae8c8bfea0df225af15555d394b", func := "cabochon/cabochonlaw20.ShapePlays", spec := "shapePlays", apart := false }
def ShapePlaysSaid : Prop := shapePlaysRow.holds Try.pinned (OpenSpec.ofChange shapePlaysSpec)

/-- ITS FALSE NEIGHBOUR: 'it returns false'. Refute it at one input. -/
def shapePlaysWrong : ChangeSpec := { name := "shapePlays", fn := fun _ => fun
  | [d1, d2, d3] => { results := [.lit (.bool false)], args := [d1, d2, d3] }
  | _ => none }
def ShapePlaysWrongFalsely : Prop := shapePlaysRow.holds Try.pinned (OpenSpec.ofChange shapePlaysWrong)

/- THE SECOND FORM. 'bulk': how many values and letters a reading holds, each counted each time it is reached (what is shared counts as often as it is met; a slice's spare places count too). A statement '..UptoSaid' is the law's where the arguments, and the package variables that the reading takes, are together of bulk at most 1048576: NARROWER than '..Said'. Prove '..Said' where nothing that the law and all that it calls make is longer than what came in: it says more and counts as full. Else prove '..UptoSaid'. A law counts once. -/
mutual
def uptoBulk {H : Type} : DataW H → Nat
  | .lit (.string bytes) => bytes.length + 1
  | .lit _ => 1
  | .nil => 1
  | .ptr d => uptoBulk d + 1
  | .slice elems spare => uptoBulkAll elems + uptoBulkAll spare + 1
  | .agg parts => uptoBulkAll parts + 1
  | .iface _ d => uptoBulk d + 1
  | .map entries => uptoBulkEntries entries + 1
  | .held _ => 1
def uptoBulkAll {H : Type} : List (DataW H) → Nat
  | [] => 0
  | d :: r => uptoBulk d + uptoBulkAll r
def uptoBulkEntries {H : Type} : List (Lit × DataW H) → Nat
  | [] => 0
  | x :: r => uptoBulkEntry x + uptoBulkEntries r
def uptoBulkEntry {H : Type} : Lit × DataW H → Nat
  | (.string bytes, d) => bytes.length + uptoBulk d + 1
  | (_, d) => uptoBulk d + 1
 end
def uptoSmall : (H : Type) → List (DataW H) → Bool := fun _ ds => decide (uptoBulkAll ds ≤ 1048576)
def OpenSpec.upto (s : _root_.Go.ChangeSpec) : _root_.Go.OpenSpec := { _root_.Go.OpenSpec.ofChange s with cond := some uptoSmall }

/-- 'cabochonlaw20.ShapeFull', WHERE WHAT IT READS IS OF BULK AT MOST 1048576: true; the input reads as it did. -/
def shapeFullUptoRow : OpenClaim := { program := "ythcndkpkkaphoaa", sum := "ab223f1dc931e2c8be65c96071acc16eca1c8ae8c8bfea0df225af15555d394b", func := "cabochon/cabochonlaw20.ShapeFull", spec := "shapeFull", apart := false, narrowed := true }
def ShapeFullUptoSaid : Prop := shapeFullUptoRow.holds Try.pinned (OpenSpec.upto shapeFullSpec)

/-- 'cabochonlaw20.ShapeTables', WHERE WHAT IT READS IS OF BULK AT MOST 1048576: true; the input reads as it did. -/
def shapeTablesUptoRow : OpenClaim := { program := "ythcndkpkkaphoaa", sum := "ab223f1dc931e2c8be65c96071acc16eca1c8ae8c8bfea0df225af15555d394b", func := "cabochon/cabochonlaw20.ShapeTables", spec := "shapeTables", apart := false, narrowed := true }
def ShapeTablesUptoSaid : Prop := shapeTablesUptoRow.holds Try.pinned (OpenSpec.upto shapeTablesSpec)

/-- 'cabochonlaw20.ShapeAlike', WHERE WHAT IT READS IS OF BULK AT MOST 1048576: true; the input reads as it did. -/
def shapeAlikeUptoRow : OpenClaim := { program := "ythcndkpkkaphoaa", sum := "ab223f1dc931e2c8be65c96071acc16eca1c8ae8c8bfea0df225af15555d394b", func := "cabochon/cabochonlaw20.ShapeAlike", spec := "shapeAlike", apart := false, narrowed := true }
def ShapeAlikeUptoSaid : Prop := shapeAlikeUptoRow.holds Try.pinned (OpenSpec.upto shapeAlikeSpec)

/-- 'cabochonlaw20.ShapeStays', WHERE WHAT IT READS IS OF BULK AT MOST 1048576: true; the input reads as it did. -/
def shapeStaysUptoRow : OpenClaim := { program := "ythcndkpkkaphoaa", sum := "ab223f1dc931e2c8be65c96071acc16eca1c8ae8c8bfea0df225af15555d394b", func := "cabochon/cabochonlaw20.ShapeStays", spec := "shapeStays", apart := false, narrowed := true }
def ShapeStaysUptoSaid : Prop := shapeStaysUptoRow.holds Try.pinned (OpenSpec.upto shapeStaysSpec)

/-- 'cabochonlaw20.ShapeClones', WHERE WHAT IT READS IS OF BULK AT MOST 1048576: true; the input reads as it did. -/
def shapeClonesUptoRow : OpenClaim := { program := "ythcndkpkkaphoaa", sum := "ab223f1dc931e2c8be65c96071acc16eca1c8ae8c8bfea0df225af15555d394b", func := "cabochon/cabochonlaw20.ShapeClones", spec := "shapeClones", apart := false, narrowed := true }
def ShapeClonesUptoSaid : Prop := shapeClonesUptoRow.holds Try.pinned (OpenSpec.upto shapeClonesSpec)

/-- 'cabochonlaw20.ShapeCopies', WHERE WHAT IT READS IS OF BULK AT MOST 1048576: true; the input reads as it did. -/
def shapeCopiesUptoRow : OpenClaim := { program := "ythcndkpkkaphoaa", sum := "ab223f1dc931e2c8be65c96071acc16eca1c8ae8c8bfea0df225af15555d394b", func := "cabochon/cabochonlaw20.ShapeCopies", spec := "shapeCopies", apart := false, narrowed := true }
def ShapeCopiesUptoSaid : Prop := shapeCopiesUptoRow.holds Try.pinned (OpenSpec.upto shapeCopiesSpec)

/-- 'cabochonlaw20.ShapeNothing', WHERE WHAT IT READS IS OF BULK AT MOST 1048576: true; the input reads as it did. -/
def shapeNothingUptoRow : OpenClaim := { program := "ythcndkpkkaphoaa", sum := "ab223f1dc931e2c8be65c96071acc16eca1c8ae8c8bfea0df225af15555d394b", func := "cabochon/cabochonlaw20.ShapeNothing", spec := "shapeNothing", apart := false, narrowed := true }
def ShapeNothingUptoSaid : Prop := shapeNothingUptoRow.holds Try.pinned (OpenSpec.upto shapeNothingSpec)

/-- 'cabochonlaw20.ShapeSlots', WHERE WHAT IT READS IS OF BULK AT MOST 1048576: true; the input reads as it did. -/
def shapeSlotsUptoRow : OpenClaim := { program := "ythcndkpkkaphoaa", sum := "ab223f1dc931e2c8be65c96071acc16eca1c8ae8c8bfea0df225af15555d394b", func := "cabochon/cabochonlaw20.ShapeSlots", spec := "shapeSlots", apart := false, narrowed := true }
def ShapeSlotsUptoSaid : Prop := shapeSlotsUptoRow.holds Try.pinned (OpenSpec.upto shapeSlotsSpec)

/-- 'cabochonlaw20.ShapePlays', WHERE WHAT IT READS IS OF BULK AT MOST 1048576: true; the input reads as it did. -/
def shapePlaysUptoRow : OpenClaim := { program := "ythcndkpkkaphoaa", sum := "ab223f1dc931e2c8be65c96071acc16eca1c8ae8c8bfea0df225af15555d394b", func := "cabochon/cabochonlaw20.ShapePlays", spec := "shapePlays", apart := false, narrowed := true }
def ShapePlaysUptoSaid : Prop := shapePlaysUptoRow.holds Try.pinned (OpenSpec.upto shapePlaysSpec)

end Rows
end Go.Proofs.Ythcndkpkkaphoaa
