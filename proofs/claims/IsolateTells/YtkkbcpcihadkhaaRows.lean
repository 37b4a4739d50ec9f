/-
  No cell of these rows narrows 'for every input' (looked for: loops, veiled, ifaces, maps, wideKeys, modest, calm, conditions, laid).
  DERIVED. THE GIVEN ROWS OF THIS SEAT. 8 by the template 'for every input the law returns true; each argument reads behind the call as it read before'; 0 by the template 'total and deterministic' (their statements: YtkkbcpcihadkhaaTotals.lean).
  GIVEN WITH THE SEED: the statements are not yours to turn. If you find one false, say at which input.
  Laid BY PROGRAM, IN A SANDBOX (cutbox-rows.mjs): the forced cells as the released guide's own fill.sh prints them over the translation 99fc7fff145b295f… (all of the seat's roots in one cut). By AI agents, Wed Nov 11 2026. No macro, syntax, notation, axiom, sorry.
-/
import Derived.Test.YtkkbcpcihadkhaaChecked
import GoSem.Claim
import GoSem.ClaimJoined
import GoSem.ClaimMapViews
import Derived.JoinedTies
import Derived.KernelRfl
namespace Go.Proofs.Ytkkbcpcihadkhaa
/- THE CELL 'sum', in the pinned program and in every row, IS THE sha256 OF THE DUMP (.gsa) THAT YtkkbcpcihadkhaaProg.lean LOADS. Nothing in Lean hashes anything: it is a label: what it is worth is what the hold of that sum in a sandbox is worth. -/
noncomputable def Try.pinned : Pinned := { name := "ytkkbcpcihadkhaa", sum := "99fc7fff145b295f91b7deeb5bc37b3f56192a3f61d3d021bc062016b46e31a5", checked := Try.checked }
namespace Rows
def none {H : Type} : Left H := { results := [], args := [] }

/-- 'cabochonlaw28.IsolateSends': WHATEVER THE INPUT: true; the input reads as it did. -/
def isolateSendsSpec : ChangeSpec := { name := "isolateSends", fn := fun _ => fun
  | [d1, d2, d3] => { results := [.lit (.bool true)], args := [d1, d2, d3] }
  | _ => none }
def isolateSendsRow : OpenClaim := { program := "ytkkbcpcihadkhaa", sum := "99fc7fff145b295f91b7deeb5bc37b3f56192a3f61d3d021bc062016b46e31a5", func := "cabochon/cabochonlaw28.IsolateSends", spec := "isolateSends", unfollowed := true, recurses := true, apart := false }
def IsolateSendsSaid : Prop := isolateSendsRow.holds Try.pinned (OpenSpec.ofChange isolateSendsSpec)

/-- ITS FALSE NEIGHBOUR: 'it returns false'. Refute it at one input. -/
def isolateSendsWrong : ChangeSpec := { name := "isolateSends", fn := fun _ => fun
  | [d1, d2, d3] => { results := [.lit (.bool false)], args := [d1, d2, d3] }
  | _ => none }
def IsolateSendsWrongFalsely : Prop := isolateSendsRow.holds Try.pinned (OpenSpec.ofChange isolateSendsWrong)

/-- 'cabochonlaw28.IsolateShared': WHATEVER THE INPUT: true; the input reads as it did. -/
def isolateSharedSpec : ChangeSpec := { name := "isolateShared", fn := fun _ => fun
  | [d1, d2, d3] => { results := [.lit (.bool true)], args := [d1, d2, d3] }
  | _ => none }
def isolateSharedRow : OpenClaim := { program := "ytkkbcpcihadkhaa", sum := "99fc7fff145b295f91b7deeb5bc37b3f56192a3f61d3d021bc062016b46e31a5", func := "cabochon/cabochonlaw28.IsolateShared", spec := "isolateShared", unfollowed := true, recurses := true, apart := false }
def IsolateSharedSaid : Prop := isolateSharedRow.holds Try.pinned (OpenSpec.ofChange isolateSharedSpec)

/-- ITS FALSE NEIGHBOUR: 'it returns false'. Refute it at one input. -/
def isolateSharedWrong : ChangeSpec := { name := "isolateShared", fn := fun _ => fun
  | [d1, d2, d3] => { results := [.lit (.bool false)], args := [d1, d2, d3] }
  | _ => none }
def IsolateSharedWrongFalsely : Prop := isolateSharedRow.holds Try.pinned (OpenSpec.ofChange isolateSharedWrong)

/-- 'cabochonlaw28.IsolateApart': WHATEVER THE INPUT: true; the input reads as it did. -/
def isolateApartSpec : ChangeSpec := { name := "isolateApart", fn := fun _ => fun
  | [d1, d2] => { results := [.lit (.bool true)], args := [d1, d2] }
  | _ => none }
def isolateApartRow : OpenClaim := { program := "ytkkbcpcihadkhaa", sum := "99fc7fff145b295f91b7deeb5bc37b3f56192a3f61d3d021bc062016b46e31a5", func := "cabochon/cabochonlaw28.IsolateApart", spec := "isolateApart", unfollowed := true, recurses := true, apart := false }
def IsolateApartSaid : Prop := isolateApartRow.holds Try.pinned (OpenSpec.ofChange isolateApartSpec)

/-- ITS FALSE NEIGHBOUR: 'it returns false'. Refute it at one input. -/
def isolateApartWrong : ChangeSpec := { name := "isolateApart", fn := fun _ => fun
  | [d1, d2] => { results := [.lit (.bool false)], args := [d1, d2] }
  | _ => none }
def IsolateApartWrongFalsely : Prop := isolateApartRow.holds Try.pinned (OpenSpec.ofChange isolateApartWrong)

/-- 'cabochonlaw28.IsolateTells': WHATEVER THE INPUT: true; the input reads as it did. -/
def isolateTellsSpec : ChangeSpec := { name := "isolateTells", fn := fun _ => fun
  | [d1, d2] => { results := [.lit (.bool true)], args := [d1, d2] }
  | _ => none }
def isolateTellsRow : OpenClaim := { program := "ytkkbcpcihadkhaa", sum := "99fc7fff145b295f91b7deeb5bc37b3f56192a3f61d3d021bc062016b46e31a5", func := "cabochon/cabochonlaw28.IsolateTells", spec := "isolateTells", unfollowed := true, recurses := true, apart := false }
def IsolateTellsSaid : Prop := isolateTellsRow.holds Try.pinned (OpenSpec.ofChange isolateTellsSpec)

/-- ITS FALSE NEIGHBOUR: 'it returns false'. Refute it at one input. -/
def isolateTellsWrong : ChangeSpec := { name := "isolateTells", fn := fun _ => fun
  | [d1, d2] => { results := [.lit (.bool false)], args := [d1, d2] }
  | _ => none }
def IsolateTellsWrongFalsely : Prop := isolateTellsRow.holds Try.pinned (OpenSpec.ofChange isolateTellsWrong)

/-- 'cabochonlaw28.IsolateAsks': WHATEVER THE INPUT: true; the input reads as it did. -/
def isolateAsksSpec : ChangeSpec := { name := "isolateAsks", fn := fun _ => fun
  | [d1, d2, d3] => { results := [.lit (.bool true)], args := [d1, d2, d3] }
  | _ => none }
def isolateAsksRow : OpenClaim := { program := "ytkkbcpcihadkhaa", sum := "99fc7fff145b295f91b7deeb5bc37b3f56192a3f61d3d021bc062016b46e31a5", func := "cabochon/cabochonlaw28.IsolateAsks", spec := "isolateAsks", unfollowed := true, recurses := true, apart := false }
def IsolateAsksSaid : Prop := isolateAsksRow.holds Try.pinned (OpenSpec.ofChange isolateAsksSpec)

/-- ITS FALSE NEIGHBOUR: 'it returns false'. Refute it at one input. -/
def isolateAsksWrong : ChangeSpec := { name := "isolateAsks", fn := fun _ => fun
  | [d1, d2, d3] => { results := [.lit (.bool false)], args := [d1, d2, d3] }
  | _ => none }
def IsolateAsksWrongFalsely : Prop := isolateAsksRow.holds Try.pinned (OpenSpec.ofChange isolateAsksWrong)

/-- 'cabochonlaw28.IsolatePlays': WHATEVER THE INPUT: true; the input reads as it did. -/
def isolatePlaysSpec : ChangeSpec := { name := "isolatePlays", fn := fun _ => fun
  | [d1, d2] => { results := [.lit (.bool true)], args := [d1, d2] }
  | _ => none }
def isolatePlaysRow : OpenClaim := { program := "ytkkbcpcihadkhaa", sum := "99fc7fff145b295f91b7deeb5bc37b3f56192a3f61d3d021bc062016b46e31a5", func := "cabochon/cabochonlaw28.IsolatePlays", spec := "isolatePlays", unfollowed := true, recurses := true, apart := false }
def IsolatePlaysSaid : Prop := isolatePlaysRow.holds Try.pinned (OpenSpec.ofChange isolatePlaysSpec)

/-- ITS FALSE NEIGHBOUR: 'it returns false'. Refute it at one input. -/
def isolatePlaysWrong : ChangeSpec := { name := "isolatePlays", fn := fun _ => fun
  | [d1, d2] => { results := [.lit (.bool false)], args := [d1, d2] }
  | _ => none }
def IsolatePlaysWrongFalsely : Prop := isolatePlaysRow.holds Try.pinned (OpenSpec.ofChange isolatePlaysWrong)

/-- 'cabochonlaw28.IsolateCopies': WHATEVER THE INPUT: true; the input reads as it did. -/
def isolateCopiesSpec : ChangeSpec := { name := "isolateCopies", fn := fun _ => fun
  | [d1, d2, d3] => { results := [.lit (.bool true)], args := [d1, d2, d3] }
  | _ => none }
def isolateCopiesRow : OpenClaim := { program := "ytkkbcpcihadkhaa", sum := "99fc7fff145b295f91b7deeb5bc37b3f56192a3f61d3d021bc062016b46e31a5", func := "cabochon/cabochonlaw28.IsolateCopies", spec := "isolateCopies", unfollowed := true, recurses := true, apart := false }
def IsolateCopiesSaid : Prop := isolateCopiesRow.holds Try.pinned (OpenSpec.ofChange isolateCopiesSpec)

/-- ITS FALSE NEIGHBOUR: 'it returns false'. Refute it at one input. -/
def isolateCopiesWrong : ChangeSpec := { name := "isolateCopies", fn := fun _ => fun
  | [d1, d2, d3] => { results := [.lit (.bool false)], args := [d1, d2, d3] }
  | _ => none }
def IsolateCopiesWrongFalsely : Prop := isolateCopiesRow.holds Try.pinned (OpenSpec.ofChange isolateCopiesWrong)

/-- 'cabochonlaw28.IsolateNothing': WHATEVER THE INPUT: true; the input reads as it did. -/
def isolateNothingSpec : ChangeSpec := { name := "isolateNothing", fn := fun _ => fun
  | [d1, d2, d3] => { results := [.lit (.bool true)], args := [d1, d2, d3] }
  | _ => none }
def isolateNothingRow : OpenClaim := { program := "ytkkbcpcihadkhaa", sum := "99fc7fff145b295f91b7deeb5bc37b3f56192a3f61d3d021bc062016b46e31a5", func := "cabochon/cabochonlaw28.IsolateNothing", spec := "isolateNothing", unfollowed := true, recurses := true, apart := false }
def IsolateNothingSaid : Prop := isolateNothingRow.holds Try.pinned (OpenSpec.ofChange isolateNothingSpec)

/-- ITS FALSE NEIGHBOUR: 'it returns false'. Refute it at one input. -/
def isolateNothingWrong : ChangeSpec := { name := "isolateNothing", fn := fun _ => fun
  | [d1, d2, d3] => { results := [.lit (.bool false)], args := [d1, d2, d3] }
  | _ => none }
def IsolateNothingWrongFalsely : Prop := isolateNothingRow.holds Try.pinned (OpenSpec.ofChange isolateNothingWrong)

/- THE SECOND FORM. 'bulk': how many values and letters a reading holds, each counted each time it is reached (what is shared counts as often as it is met; a slice's spare places count too). A statement '..UptoSaid' is the law's where the arguments, and the package variables that the reading takes, are together of bulk at most 1048576: NARROWER than '..Said'. Prove '..Said' where nothing that the law and all that it calls make is longer than what came in: it says more and counts as full. Else prove '..UptoSaid'. A law counts once. -/
mutual
def uptoBulk {H : Type} : DataW H → Nat
  | .lit (.string bytes) => bytes.length + 1
  | .lit _ => 1
  | .nil => 1
  | .ptr d => uptoBulk d + 1
  | .slice elems spare => uptoBulkAll elems + uptoBulkAll spare + 1
  | .agg parts => uptoBulkAll parts + 1
  | .iface _ d => uptoBulk d + 1
  | .map entries => uptoBulkEntries entries + 1
  | .held _ => 1
def uptoBulkAll {H : Type} : List (DataW H) → Nat
  | [] => 0
  | d :: r => uptoBulk d + uptoBulkAll r
def uptoBulkEntries {H : Type} : List (Lit × DataW H) → Nat
  | [] => 0
  | x :: r => uptoBulkEntry x + uptoBulkEntries r
def uptoBulkEntry {H : Type} : Lit × DataW H → Nat
  | (.string bytes, d) => bytes.length + uptoBulk d + 1
  | (_, d) => uptoBulk d + 1
 end
def uptoSmall : (H : Type) → List (DataW H) → Bool := fun _ ds => decide (uptoBulkAll ds ≤ 1048576)
def OpenSpec.upto (s : _root_.Go.ChangeSpec) : _root_.Go.OpenSpec := { _root_.Go.OpenSpec.ofChange s with cond := some uptoSmall }

/-- 'cabochonlaw28.IsolateSends', WHERE WHAT IT READS IS OF BULK AT MOST 1048576: true; the input reads as it did. -/
def isolateSendsUptoRow : OpenClaim := { program := "ytkkbcpcihadkhaa", sum := "99fc7fff145b295f91b7deeb5bc37b3f56192a3f61d3d021bc062016b46e31a5", func := "cabochon/cabochonlaw28.IsolateSends", spec := "isolateSends", unfollowed := true, recurses := true, apart := false, narrowed := true }
def IsolateSendsUptoSaid : Prop := isolateSendsUptoRow.holds Try.pinned (OpenSpec.upto isolateSendsSpec)

/-- 'cabochonlaw28.IsolateShared', WHERE WHAT IT READS IS OF BULK AT MOST 1048576: true; the input reads as it did. -/
def isolateSharedUptoRow : OpenClaim := { program := "ytkkbcpcihadkhaa", sum := "99fc7fff145b295f91b7deeb5bc37b3f56192a3f61d3d021bc062016b46e31a5", func := "cabochon/cabochonlaw28.IsolateShared", spec := "isolateShared", unfollowed := true, recurses := true, apart := false, narrowed := true }
def IsolateSharedUptoSaid : Prop := isolateSharedUptoRow.holds Try.pinned (OpenSpec.upto isolateSharedSpec)

/-- 'cabochonlaw28.IsolateApart', WHERE WHAT IT READS IS OF BULK AT MOST 1048576: true; the input reads as it did. -/
def isolateApartUptoRow : OpenClaim := { program := "ytkkbcpcihadkhaa", sum := "99fc7fff145b295f91b7deeb5bc37b3f56192a3f61d3d021bc062016b46e31a5", func := "cabochon/cabochonlaw28.IsolateApart", spec := "isolateApart", unfollowed := true, recurses := true, apart := false, narrowed := true }
def IsolateApartUptoSaid : Prop := isolateApartUptoRow.holds Try.pinned (OpenSpec.upto isolateApartSpec)

/-- 'cabochonlaw28.IsolateTells', WHERE WHAT IT READS IS OF BULK AT MOST 1048576: true; the input reads as it did. -/
def isolateTellsUptoRow : OpenClaim := { program := "ytkkbcpcihadkhaa", sum := "99fc7fff145b295f91b7deeb5bc37b3f56192a3f61d3d021bc062016b46e31a5", func := "cabochon/cabochonlaw28.IsolateTells", spec := "isolateTells", unfollowed := true, recurses := true, apart := false, narrowed := true }
def IsolateTellsUptoSaid : Prop := isolateTellsUptoRow.holds Try.pinned (OpenSpec.upto isolateTellsSpec)

/-- 'cabochonlaw28.IsolateAsks', WHERE WHAT IT READS IS OF BULK AT MOST 1048576: true; the input reads as it did. -/
def isolateAsksUptoRow : OpenClaim := { program := "ytkkbcpcihadkhaa", sum := "99fc7fff145b295f91b7deeb5bc37b3f56192a3f61d3d021bc062016b46e31a5", func := "cabochon/cabochonlaw28.IsolateAsks", spec := "isolateAsks", unfollowed := true, recurses := true, apart := false, narrowed := true }
def IsolateAsksUptoSaid : Prop := isolateAsksUptoRow.holds Try.pinned (OpenSpec.upto isolateAsksSpec)

/-- 'cabochonlaw28.IsolatePlays', WHERE WHAT IT READS IS OF BULK AT MOST 1048576: true; the input reads as it did. -/
def isolatePlaysUptoRow : OpenClaim := { program := "ytkkbcpcihadkhaa", sum := "99fc7fff145b295f91b7deeb5bc37b3f56192a3f61d3d021bc062016b46e31a5", func := "cabochon/cabochonlaw28.IsolatePlays", spec := "isolatePlays", unfollowed := true, recurses := true, apart := false, narrowed := true }
def IsolatePlaysUptoSaid : Prop := isolatePlaysUptoRow.holds Try.pinned (OpenSpec.upto isolatePlaysSpec)

/-- 'cabochonlaw28.IsolateCopies', WHERE WHAT IT READS IS OF BULK AT MOST 1048576: true; the input reads as it did. -/
def isolateCopiesUptoRow : OpenClaim := { program := "ytkkbcpcihadkhaa", sum := "99fc7fff145b295f91b7deeb5bc37b3f56192a3f61d3d021bc062016b46e31a5", func := "cabochon/cabochonlaw28.IsolateCopies", spec := "isolateCopies", unfollowed := true, recurses := true, apart := false, narrowed := true }
def IsolateCopiesUptoSaid : Prop := isolateCopiesUptoRow.holds Try.pinned (OpenSpec.upto isolateCopiesSpec)

/-- 'cabochonlaw28.IsolateNothing', WHERE WHAT IT READS IS OF BULK AT MOST 1048576: true; the input reads as it did. -/
def isolateNothingUptoRow : OpenClaim := { program := "ytkkbcpcihadkhaa", sum := "99fc7fff145b295f91b7deeb5bc37b3f56192a3f61d3d021bc062016b46e31a5", func := "cabochon/cabochonlaw28.IsolateNothing", spec := "isolateNothing", unfollowed := true, recurses := true, apart := false, narrowed := true }
def IsolateNothingUptoSaid : Prop := isolateNothingUptoRow.holds Try.pinned (OpenSpec.upto isolateNothingSpec)

end Rows
end Go.Proofs.Ytkkbcpcihadkhaa
