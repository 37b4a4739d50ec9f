/-
  No cell of these rows narrows 'for every input' (looked for: loops, veiled, ifaces, maps, wideKeys, modest, calm, conditions, laid).
  DERIVED. THE GIVEN ROWS OF THIS SEAT. 6 by the template 'for every input the law returns true; each argument reads behind the call as it read before'; 0 by the template 'total and deterministic' (their statements: YtipokdbfdingmaaTotals.lean).
  GIVEN WITH THE SEED: the statements are not yours to turn. If you find one false, say at which input.
  Laid BY PROGRAM, IN A SANDBOX (cutbox-rows.mjs): the forced cells as the released guide's own fill.sh prints them over the translation d298b7ff5f26bf3b… (all of the seat's roots in one cut). By AI agents, Wed Nov 11 2026. No macro, syntax, notation, axiom, sorry.
-/
import Derived.Test.YtipokdbfdingmaaChecked
import GoSem.Claim
import GoSem.ClaimJoined
import GoSem.ClaimMapViews
import Derived.JoinedTies
import Derived.KernelRfl
namespace Go.Proofs.Ytipokdbfdingmaa
/- THE CELL 'sum', in the pinned program and in every row, IS THE sha256 OF THE DUMP (.gsa) THAT YtipokdbfdingmaaProg.lean LOADS. Nothing in Lean hashes anything: it is a label: what it is worth is what the hold of that sum in a sandbox is worth. -/
noncomputable def Try.pinned : Pinned := { name := "ytipokdbfdingmaa", sum := "d298b7ff5f26bf3b15f5d44ea2ab85ac33ded944497fd3579082402b5124ccc2", checked := Try.checked }
namespace Rows
def none {H : Type} : Left H := { results := [], args := [] }

/-- 'cabochonlaw25.GroundEnough': WHATEVER THE INPUT: true; the input reads as it did. -/
def groundEnoughSpec : ChangeSpec := { name := "groundEnough", fn := fun _ => fun
  | [d] => { results := [.lit (.bool true)], args := [d] }
  | _ => none }
def groundEnoughRow : OpenClaim := { program := "ytipokdbfdingmaa", sum := "d298b7ff5f26bf3b15f5d44ea2ab85ac33ded944497fd3579082402b5124ccc2", func := "cabochon/cabochonlaw25.GroundEnough", spec := "groundEnough", inPlace := ["slices.overlaps[string]"], unfollowed := true, recurses := true, apart := false }
def GroundEnoughSaid : Prop := groundEnoughRow.holds Try.pinned (OpenSpec.ofChange groundEnoughSpec)

/-- ITS FALSE NEIGHBOUR: 'it returns false'. Refute it at one input. -/
def groundEnoughWrong : ChangeSpec := { name := "groundEnough", fn := fun _ => fun
  | [d] => { results := [.lit (.bool false)], args := [d] }
  | _ => none }
def GroundEnoughWrongFalsely : Prop := groundEnoughRow.holds Try.pinned (OpenSpec.ofChange groundEnoughWrong)

/-- 'cabochonlaw25.GroundTells': WHATEVER THE INPUT: true; the input reads as it did. -/
def groundTellsSpec : ChangeSpec := { name := "groundTells", fn := fun _ => fun
  | [d] => { results := [.lit (.bool true)], args := [d] }
  | _ => none }
def groundTellsRow : OpenClaim := { program := "ytipokdbfdingmaa", sum := "d298b7ff5f26bf3b15f5d44ea2ab85ac33ded944497fd3579082402b5124ccc2", func := "cabochon/cabochonlaw25.GroundTells", spec := "groundTells", inPlace := ["slices.overlaps[string]"], unfollowed := true, recurses := true, apart := false }
def GroundTellsSaid : Prop := groundTellsRow.holds Try.pinned (OpenSpec.ofChange groundTellsSpec)

/-- ITS FALSE NEIGHBOUR: 'it returns false'. Refute it at one input. -/
def groundTellsWrong : ChangeSpec := { name := "groundTells", fn := fun _ => fun
  | [d] => { results := [.lit (.bool false)], args := [d] }
  | _ => none }
def GroundTellsWrongFalsely : Prop := groundTellsRow.holds Try.pinned (OpenSpec.ofChange groundTellsWrong)

/-- 'cabochonlaw25.GroundWho': WHATEVER THE INPUT: true; the input reads as it did. -/
def groundWhoSpec : ChangeSpec := { name := "groundWho", fn := fun _ => fun
  | [d1, d2] => { results := [.lit (.bool true)], args := [d1, d2] }
  | _ => none }
def groundWhoRow : OpenClaim := { program := "ytipokdbfdingmaa", sum := "d298b7ff5f26bf3b15f5d44ea2ab85ac33ded944497fd3579082402b5124ccc2", func := "cabochon/cabochonlaw25.GroundWho", spec := "groundWho", inPlace := ["slices.overlaps[string]"], unfollowed := true, recurses := true, apart := false }
def GroundWhoSaid : Prop := groundWhoRow.holds Try.pinned (OpenSpec.ofChange groundWhoSpec)

/-- ITS FALSE NEIGHBOUR: 'it returns false'. Refute it at one input. -/
def groundWhoWrong : ChangeSpec := { name := "groundWho", fn := fun _ => fun
  | [d1, d2] => { results := [.lit (.bool false)], args := [d1, d2] }
  | _ => none }
def GroundWhoWrongFalsely : Prop := groundWhoRow.holds Try.pinned (OpenSpec.ofChange groundWhoWrong)

/-- 'cabochonlaw25.GroundStays': WHATEVER THE INPUT: true; the input reads as it did. -/
def groundStaysSpec : ChangeSpec := { name := "groundStays", fn := fun _ => fun
  | [d1, d2] => { results := [.lit (.bool true)], args := [d1, d2] }
  | _ => none }
def groundStaysRow : OpenClaim := { program := "ytipokdbfdingmaa", sum := "d298b7ff5f26bf3b15f5d44ea2ab85ac33ded944497fd3579082402b5124ccc2", func := "cabochon/cabochonlaw25.GroundStays", spec := "groundStays", inPlace := ["slices.overlaps[string]", "maps.clone"], unfollowed := true, recurses := true, apart := false }
def GroundStaysSaid : Prop := groundStaysRow.holds Try.pinned (OpenSpec.ofChange groundStaysSpec)

/-- ITS FALSE NEIGHBOUR: 'it returns false'. Refute it at one input. -/
def groundStaysWrong : ChangeSpec := { name := "groundStays", fn := fun _ => fun
  | [d1, d2] => { results := [.lit (.bool false)], args := [d1, d2] }
  | _ => none }
def GroundStaysWrongFalsely : Prop := groundStaysRow.holds Try.pinned (OpenSpec.ofChange groundStaysWrong)

/-- 'cabochonlaw25.GroundAsks': WHATEVER THE INPUT: true; the input reads as it did. -/
def groundAsksSpec : ChangeSpec := { name := "groundAsks", fn := fun _ => fun
  | [d1, d2, d3] => { results := [.lit (.bool true)], args := [d1, d2, d3] }
  | _ => none }
def groundAsksRow : OpenClaim := { program := "ytipokdbfdingmaa", sum := "d298b7ff5f26bf3b15f5d44ea2ab85ac33ded944497fd3579082402b5124ccc2", func := "cabochon/cabochonlaw25.GroundAsks", spec := "groundAsks", inPlace := ["slices.overlaps[string]"], unfollowed := true, recurses := true, apart := false }
def GroundAsksSaid : Prop := groundAsksRow.holds Try.pinned (OpenSpec.ofChange groundAsksSpec)

/-- ITS FALSE NEIGHBOUR: 'it returns false'. Refute it at one input. -/
def groundAsksWrong : ChangeSpec := { name := "groundAsks", fn := fun _ => fun
  | [d1, d2, d3] => { results := [.lit (.bool false)], args := [d1, d2, d3] }
  | _ => none }
def GroundAsksWrongFalsely : Prop := groundAsksRow.holds Try.pinned (OpenSpec.ofChange groundAsksWrong)

/-- 'cabochonlaw25.GroundNothing': WHATEVER THE INPUT: true; the input reads as it did. -/
def groundNothingSpec : ChangeSpec := { name := "groundNothing", fn := fun _ => fun
  | [d1, d2, d3] => { results := [.lit (.bool true)], args := [d1, d2, d3] }
  | _ => none }
def groundNothingRow : OpenClaim := { program := "ytipokdbfdingmaa", sum := "d298b7ff5f26bf3b15f5d44ea2ab85ac33ded944497fd3579082402b5124ccc2", func := "cabochon/cabochonlaw25.GroundNothing", spec := "groundNothing", inPlace := ["slices.overlaps[string]", "maps.clone"], unfollowed := true, recurses := true, apart := false }
def GroundNothingSaid : Prop := groundNothingRow.holds Try.pinned (OpenSpec.ofChange groundNothingSpec)

/-- ITS FALSE NEIGHBOUR: 'it returns false'. Refute it at one input. -/
def groundNothingWrong : ChangeSpec := { name := "groundNothing", fn := fun _ => fun
  | [d1, d2, d3] => { results := [.lit (.bool false)], args := [d1, d2, d3] }
  | _ => none }
def GroundNothingWrongFalsely : Prop := groundNothingRow.holds Try.pinned (OpenSpec.ofChange groundNothingWrong)

/- THE SECOND FORM. 'bulk': how many values and letters a reading holds, each counted each time it is reached (what is shared counts as often as it is met; a slice's spare places count too). A statement '..UptoSaid' is the law's where the arguments, and the package variables that the reading takes, are together of bulk at most 1048576: NARROWER than '..Said'. Prove '..Said' where nothing that the law and all that it calls make is longer than what came in: it says more and counts as full. Else prove '..UptoSaid'. A law counts once. -/
mutual
def uptoBulk {H : Type} : DataW H → Nat
  | .lit (.string bytes) => bytes.length + 1
  | .lit _ => 1
  | .nil => 1
  | .ptr d => uptoBulk d + 1
  | .slice elems spare => uptoBulkAll elems + uptoBulkAll spare + 1
  | .agg parts => uptoBulkAll parts + 1
  | .iface _ d => uptoBulk d + 1
  | .map entries => uptoBulkEntries entries + 1
  | .held _ => 1
def uptoBulkAll {H : Type} : List (DataW H) → Nat
  | [] => 0
  | d :: r => uptoBulk d + uptoBulkAll r
def uptoBulkEntries {H : Type} : List (Lit × DataW H) → Nat
  | [] => 0
  | x :: r => uptoBulkEntry x + uptoBulkEntries r
def uptoBulkEntry {H : Type} : Lit × DataW H → Nat
  | (.string bytes, d) => bytes.length + uptoBulk d + 1
  | (_, d) => uptoBulk d + 1
 end
def uptoSmall : (H : Type) → List (DataW H) → Bool := fun _ ds => decide (uptoBulkAll ds ≤ 1048576)
def OpenSpec.upto (s : _root_.Go.ChangeSpec) : _root_.Go.OpenSpec := { _root_.Go.OpenSpec.ofChange s with cond := some uptoSmall }

/-- 'cabochonlaw25.GroundEnough', WHERE WHAT IT READS IS OF BULK AT MOST 1048576: true; the input reads as it did. -/
def groundEnoughUptoRow : OpenClaim := { program := "ytipokdbfdingmaa", sum := "d298b7ff5f26bf3b15f5d44ea2ab85ac33ded944497fd3579082402b5124ccc2", func := "cabochon/cabochonlaw25.GroundEnough", spec := "groundEnough", inPlace := ["slices.overlaps[string]"], unfollowed := true, recurses := true, apart := false, narrowed := true }
def GroundEnoughUptoSaid : Prop := groundEnoughUptoRow.holds Try.pinned (OpenSpec.upto groundEnoughSpec)

/-- 'cabochonlaw25.GroundTells', WHERE WHAT IT READS IS OF BULK AT MOST 1048576: true; the input reads as it did. -/
def groundTellsUptoRow : OpenClaim := { program := "ytipokdbfdingmaa", sum := "d298b7ff5f26bf3b15f5d44ea2ab85ac33ded944497fd3579082402b5124ccc2", func := "cabochon/cabochonlaw25.GroundTells", spec := "groundTells", inPlace := ["slices.overlaps[string]"], unfollowed := true, recurses := true, apart := false, narrowed := true }
def GroundTellsUptoSaid : Prop := groundTellsUptoRow.holds Try.pinned (OpenSpec.upto groundTellsSpec)

/-- 'cabochonlaw25.GroundWho', WHERE WHAT IT READS IS OF BULK AT MOST 1048576: true; the input reads as it did. -/
def groundWhoUptoRow : OpenClaim := { program := "ytipokdbfdingmaa", sum := "d298b7ff5f26bf3b15f5d44ea2ab85ac33ded944497fd3579082402b5124ccc2", func := "cabochon/cabochonlaw25.GroundWho", spec := "groundWho", inPlace := ["slices.overlaps[string]"], unfollowed := true, recurses := true, apart := false, narrowed := true }
def GroundWhoUptoSaid : Prop := groundWhoUptoRow.holds Try.pinned (OpenSpec.upto groundWhoSpec)

/-- 'cabochonlaw25.GroundStays', WHERE WHAT IT READS IS OF BULK AT MOST 1048576: true; the input reads as it did. -/
def groundStaysUptoRow : OpenClaim := { program := "ytipokdbfdingmaa", sum := "d298b7ff5f26bf3b15f5d44ea2ab85ac33ded944497fd3579082402b5124ccc2", func := "cabochon/cabochonlaw25.GroundStays", spec := "groundStays", inPlace := ["slices.overlaps[string]", "maps.clone"], unfollowed := true, recurses := true, apart := false, narrowed := true }
def GroundStaysUptoSaid : Prop := groundStaysUptoRow.holds Try.pinned (OpenSpec.upto groundStaysSpec)

/-- 'cabochonlaw25.GroundAsks', WHERE WHAT IT READS IS OF BULK AT MOST 1048576: true; the input reads as it did. -/
def groundAsksUptoRow : OpenClaim := { program := "ytipokdbfdingmaa", sum := "d298b7ff5f26bf3b15f5d44ea2ab85ac33ded944497fd3579082402b5124ccc2", func := "cabochon/cabochonlaw25.GroundAsks", spec := "groundAsks", inPlace := ["slices.overlaps[string]"], unfollowed := true, recurses := true, apart := false, narrowed := true }
def GroundAsksUptoSaid : Prop := groundAsksUptoRow.holds Try.pinned (OpenSpec.upto groundAsksSpec)

/-- 'cabochonlaw25.GroundNothing', WHERE WHAT IT READS IS OF BULK AT MOST 1048576: true; the input reads as it did. -/
def groundNothingUptoRow : OpenClaim := { program := "ytipokdbfdingmaa", sum := "d298b7ff5f26bf3b15f5d44ea2ab85ac33ded944497fd3579082402b5124ccc2", func := "cabochon/cabochonlaw25.GroundNothing", spec := "groundNothing", inPlace := ["slices.overlaps[string]", "maps.clone"], unfollowed := true, recurses := true, apart := false, narrowed := true }
def GroundNothingUptoSaid : Prop := groundNothingUptoRow.holds Try.pinned (OpenSpec.upto groundNothingSpec)

end Rows
end Go.Proofs.Ytipokdbfdingmaa
