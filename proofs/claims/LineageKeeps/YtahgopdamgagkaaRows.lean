/-
  No cell of these rows narrows 'for every input' (looked for: loops, veiled, ifaces, maps, wideKeys, modest, calm, conditions, laid).
  DERIVED. THE GIVEN ROWS OF THIS SEAT. 8 by the template 'for every input the law returns true; each argument reads behind the call as it read before'; 0 by the template 'total and deterministic' (their statements: YtahgopdamgagkaaTotals.lean).
  GIVEN WITH THE SEED: the statements are not yours to turn. If you find one false, say at which input.
  Laid BY PROGRAM, IN A SANDBOX (cutbox-rows.mjs): the forced cells as the released guide's own fill.sh prints them over the translation c66b0a74c26c2ca0… (all of the seat's roots in one cut). By AI agents, Wed Nov 11 2026. No macro, syntax, notation, axiom, sorry.
-/
import Derived.Test.YtahgopdamgagkaaChecked
import GoSem.Claim
import GoSem.ClaimJoined
import GoSem.ClaimMapViews
import Derived.JoinedTies
import Derived.KernelRfl
namespace Go.Proofs.Ytahgopdamgagkaa
/- THE CELL 'sum', in the pinned program and in every row, IS THE sha256 OF THE DUMP (.gsa) THAT YtahgopdamgagkaaProg.lean LOADS. Nothing in Lean hashes anything: it is a label: what it is worth is what the hold of that sum in a sandbox is worth. -/
noncomputable def Try.pinned : Pinned := { name := "ytahgopdamgagkaa", sum := "c66b0a74c26c2ca0a8cc94dbc3a8f232278cb2f1aaf994a518ba60ad974eee46", checked := Try.checked }
namespace Rows
def none {H : Type} : Left H := { results := [], args := [] }

/-- 'cabochonlaw18.LineageOnce': WHATEVER THE INPUT: true; the input reads as it did. -/
def lineageOnceSpec : ChangeSpec := { name := "lineageOnce", fn := fun _ => fun
  | [d] => { results := [.lit (.bool true)], args := [d] }
  | _ => none }
def lineageOnceRow : OpenClaim := { program := "ytahgopdamgagkaa", sum := "c66b0a74c26c2ca0a8cc94dbc3a8f232278cb2f1aaf994a518ba60ad974eee46", func := "cabochon/cabochonlaw18.LineageOnce", spec := "lineageOnce", unfollowed := true, recurses := true, apart := false }
def LineageOnceSaid : Prop := lineageOnceRow.holds Try.pinned (OpenSpec.ofChange lineageOnceSpec)

/-- ITS FALSE NEIGHBOUR: 'it returns false'. Refute it at one input. -/
def lineageOnceWrong : ChangeSpec := { name := "lineageOnce", fn := fun _ => fun
  | [d] => { results := [.lit (.bool false)], args := [d] }
  | _ => none }
def LineageOnceWrongFalsely : Prop := lineageOnceRow.holds Try.pinned (OpenSpec.ofChange lineageOnceWrong)

/-- 'cabochonlaw18.LineageRefused': WHATEVER THE INPUT: true; the input reads as it did. -/
def lineageRefusedSpec : ChangeSpec := { name := "lineageRefused", fn := fun _ => fun
  | [d1, d2] => { results := [.lit (.bool true)], args := [d1, d2] }
  | _ => none }
def lineageRefusedRow : OpenClaim := { program := "ytahgopdamgagkaa", sum := "c66b0a74c26c2ca0a8cc94dbc3a8f232278cb2f1aaf994a518ba60ad974eee46", func := "cabochon/cabochonlaw18.LineageRefused", spec := "lineageRefused", unfollowed := true, recurses := true, apart := false }
def LineageRefusedSaid : Prop := lineageRefusedRow.holds Try.pinned (OpenSpec.ofChange lineageRefusedSpec)

/-- ITS FALSE NEIGHBOUR: 'it returns false'. Refute it at one input. -/
def lineageRefusedWrong : ChangeSpec := { name := "lineageRefused", fn := fun _ => fun
  | [d1, d2] => { results := [.lit (.bool false)], args := [d1, d2] }
  | _ => none }
def LineageRefusedWrongFalsely : Prop := lineageRefusedRow.holds Try.pinned (OpenSpec.ofChange lineageRefusedWrong)

/-- 'cabochonlaw18.LineageKeeps': WHATEVER THE INPUT: true; the input reads as it did. -/
def lineageKeepsSpec : ChangeSpec := { name := "lineageKeeps", fn := fun _ => fun
  | [d1, d2, d3] => { results := [.lit (.bool true)], args := [d1, d2, d3] }
  | _ => none }
def lineageKeepsRow : OpenClaim := { program := "ytahgopdamgagkaa", sum := "c66b0a74c26c2ca0a8cc94dbc3a8f232278cb2f1aaf994a518ba60ad974eee46", func := "cabochon/cabochonlaw18.LineageKeeps", spec := "lineageKeeps", unfollowed := true, recurses := true, apart := false }
def LineageKeepsSaid : Prop := lineageKeepsRow.holds Try.pinned (OpenSpec.ofChange lineageKeepsSpec)

/-- ITS FALSE NEIGHBOUR: 'it returns false'. Refute it at one input. -/
def lineageKeepsWrong : ChangeSpec := { name := "lineageKeeps", fn := fun _ => fun
  | [d1, d2, d3] => { results := [.lit (.bool false)], args := [d1, d2, d3] }
  | _ => none }
def LineageKeepsWrongFalsely : Prop := lineageKeepsRow.holds Try.pinned (OpenSpec.ofChange lineageKeepsWrong)

/-- 'cabochonlaw18.LineageCopies': WHATEVER THE INPUT: true; the input reads as it did. -/
def lineageCopiesSpec : ChangeSpec := { name := "lineageCopies", fn := fun _ => fun
  | [d1, d2] => { results := [.lit (.bool true)], args := [d1, d2] }
  | _ => none }
def lineageCopiesRow : OpenClaim := { program := "ytahgopdamgagkaa", sum := "c66b0a74c26c2ca0a8cc94dbc3a8f232278cb2f1aaf994a518ba60ad974eee46", func := "cabochon/cabochonlaw18.LineageCopies", spec := "lineageCopies", unfollowed := true, recurses := true, apart := false }
def LineageCopiesSaid : Prop := lineageCopiesRow.holds Try.pinned (OpenSpec.ofChange lineageCopiesSpec)

/-- ITS FALSE NEIGHBOUR: 'it returns false'. Refute it at one input. -/
def lineageCopiesWrong : ChangeSpec := { name := "lineageCopies", fn := fun _ => fun
  | [d1, d2] => { results := [.lit (.bool false)], args := [d1, d2] }
  | _ => none }
def LineageCopiesWrongFalsely : Prop := lineageCopiesRow.holds Try.pinned (OpenSpec.ofChange lineageCopiesWrong)

/-- 'cabochonlaw18.LineageOwns': WHATEVER THE INPUT: true; the input reads as it did. -/
def lineageOwnsSpec : ChangeSpec := { name := "lineageOwns", fn := fun _ => fun
  | [d1, d2] => { results := [.lit (.bool true)], args := [d1, d2] }
  | _ => none }
def lineageOwnsRow : OpenClaim := { program := "ytahgopdamgagkaa", sum := "c66b0a74c26c2ca0a8cc94dbc3a8f232278cb2f1aaf994a518ba60ad974eee46", func := "cabochon/cabochonlaw18.LineageOwns", spec := "lineageOwns", unfollowed := true, recurses := true, apart := false }
def LineageOwnsSaid : Prop := lineageOwnsRow.holds Try.pinned (OpenSpec.ofChange lineageOwnsSpec)

/-- ITS FALSE NEIGHBOUR: 'it returns false'. Refute it at one input. -/
def lineageOwnsWrong : ChangeSpec := { name := "lineageOwns", fn := fun _ => fun
  | [d1, d2] => { results := [.lit (.bool false)], args := [d1, d2] }
  | _ => none }
def LineageOwnsWrongFalsely : Prop := lineageOwnsRow.holds Try.pinned (OpenSpec.ofChange lineageOwnsWrong)

/-- 'cabochonlaw18.LineageLive': WHATEVER THE INPUT: true; the input reads as it did. -/
def lineageLiveSpec : ChangeSpec := { name := "lineageLive", fn := fun _ => fun
  | [d1, d2, d3] => { results := [.lit (.bool true)], args := [d1, d2, d3] }
  | _ => none }
def lineageLiveRow : OpenClaim := { program := "ytahgopdamgagkaa", sum := "c66b0a74c26c2ca0a8cc94dbc3a8f232278cb2f1aaf994a518ba60ad974eee46", func := "cabochon/cabochonlaw18.LineageLive", spec := "lineageLive", unfollowed := true, recurses := true, apart := false }
def LineageLiveSaid : Prop := lineageLiveRow.holds Try.pinned (OpenSpec.ofChange lineageLiveSpec)

/-- ITS FALSE NEIGHBOUR: 'it returns false'. Refute it at one input. -/
def lineageLiveWrong : ChangeSpec := { name := "lineageLive", fn := fun _ => fun
  | [d1, d2, d3] => { results := [.lit (.bool false)], args := [d1, d2, d3] }
  | _ => none }
def LineageLiveWrongFalsely : Prop := lineageLiveRow.holds Try.pinned (OpenSpec.ofChange lineageLiveWrong)

/-- 'cabochonlaw18.LineageBelow': WHATEVER THE INPUT: true; the input reads as it did. -/
def lineageBelowSpec : ChangeSpec := { name := "lineageBelow", fn := fun _ => fun
  | [d] => { results := [.lit (.bool true)], args := [d] }
  | _ => none }
def lineageBelowRow : OpenClaim := { program := "ytahgopdamgagkaa", sum := "c66b0a74c26c2ca0a8cc94dbc3a8f232278cb2f1aaf994a518ba60ad974eee46", func := "cabochon/cabochonlaw18.LineageBelow", spec := "lineageBelow", unfollowed := true, recurses := true, apart := false }
def LineageBelowSaid : Prop := lineageBelowRow.holds Try.pinned (OpenSpec.ofChange lineageBelowSpec)

/-- ITS FALSE NEIGHBOUR: 'it returns false'. Refute it at one input. -/
def lineageBelowWrong : ChangeSpec := { name := "lineageBelow", fn := fun _ => fun
  | [d] => { results := [.lit (.bool false)], args := [d] }
  | _ => none }
def LineageBelowWrongFalsely : Prop := lineageBelowRow.holds Try.pinned (OpenSpec.ofChange lineageBelowWrong)

/-- 'cabochonlaw18.LineageNothing': WHATEVER THE INPUT: true; the input reads as it did. -/
def lineageNothingSpec : ChangeSpec := { name := "lineageNothing", fn := fun _ => fun
  | [d1, d2, d3] => { results := [.lit (.bool true)], args := [d1, d2, d3] }
  | _ => none }
def lineageNothingRow : OpenClaim := { program := "ytahgopdamgagkaa", sum := "c66b0a74c26c2ca0a8cc94dbc3a8f232278cb2f1aaf994a518ba60ad974eee46", func := "cabochon/cabochonlaw18.LineageNothing", spec := "lineageNothing", unfollowed := true, recurses := true, apart := false }
def LineageNothingSaid : Prop := lineageNothingRow.holds Try.pinned (OpenSpec.ofChange lineageNothingSpec)

/-- ITS FALSE NEIGHBOUR: 'it returns false'. Refute it at one input. -/
def lineageNothingWrong : ChangeSpec := { name := "lineageNothing", fn := fun _ => fun
  | [d1, d2, d3] => { results := [.lit (.bool false)], args := [d1, d2, d3] }
  | _ => none }
def LineageNothingWrongFalsely : Prop := lineageNothingRow.holds Try.pinned (OpenSpec.ofChange lineageNothingWrong)

/- THE SECOND FORM. 'bulk': how many values and letters a reading holds, each counted each time it is reached (what is shared counts as often as it is met; a slice's spare places count too). A statement '..UptoSaid' is the law's where the arguments, and the package variables that the reading takes, are together of bulk at most 1048576: NARROWER than '..Said'. Prove '..Said' where nothing that the law and all that it calls make is longer than what came in: it says more and counts as full. Else prove '..UptoSaid'. A law counts once. -/
mutual
def uptoBulk {H : Type} : DataW H → Nat
  | .lit (.string bytes) => bytes.length + 1
  | .lit _ => 1
  | .nil => 1
  | .ptr d => uptoBulk d + 1
  | .slice elems spare => uptoBulkAll elems + uptoBulkAll spare + 1
  | .agg parts => uptoBulkAll parts + 1
  | .iface _ d => uptoBulk d + 1
  | .map entries => uptoBulkEntries entries + 1
  | .held _ => 1
def uptoBulkAll {H : Type} : List (DataW H) → Nat
  | [] => 0
  | d :: r => uptoBulk d + uptoBulkAll r
def uptoBulkEntries {H : Type} : List (Lit × DataW H) → Nat
  | [] => 0
  | x :: r => uptoBulkEntry x + uptoBulkEntries r
def uptoBulkEntry {H : Type} : Lit × DataW H → Nat
  | (.string bytes, d) => bytes.length + uptoBulk d + 1
  | (_, d) => uptoBulk d + 1
 end
def uptoSmall : (H : Type) → List (DataW H) → Bool := fun _ ds => decide (uptoBulkAll ds ≤ 1048576)
def OpenSpec.upto (s : _root_.Go.ChangeSpec) : _root_.Go.OpenSpec := { _root_.Go.OpenSpec.ofChange s with cond := some uptoSmall }

/-- 'cabochonlaw18.LineageOnce', WHERE WHAT IT READS IS OF BULK AT MOST 1048576: true; the input reads as it did. -/
def lineageOnceUptoRow : OpenClaim := { program := "ytahgopdamgagkaa", sum := "c66b0a74c26c2ca0a8cc94dbc3a8f232278cb2f1aaf994a518ba60ad974eee46", func := "cabochon/cabochonlaw18.LineageOnce", spec := "lineageOnce", unfollowed := true, recurses := true, apart := false, narrowed := true }
def LineageOnceUptoSaid : Prop := lineageOnceUptoRow.holds Try.pinned (OpenSpec.upto lineageOnceSpec)

/-- 'cabochonlaw18.LineageRefused', WHERE WHAT IT READS IS OF BULK AT MOST 1048576: true; the input reads as it did. -/
def lineageRefusedUptoRow : OpenClaim := { program := "ytahgopdamgagkaa", sum := "c66b0a74c26c2ca0a8cc94dbc3a8f232278cb2f1aaf994a518ba60ad974eee46", func := "cabochon/cabochonlaw18.LineageRefused", spec := "lineageRefused", unfollowed := true, recurses := true, apart := false, narrowed := true }
def LineageRefusedUptoSaid : Prop := lineageRefusedUptoRow.holds Try.pinned (OpenSpec.upto lineageRefusedSpec)

/-- 'cabochonlaw18.LineageKeeps', WHERE WHAT IT READS IS OF BULK AT MOST 1048576: true; the input reads as it did. -/
def lineageKeepsUptoRow : OpenClaim := { program := "ytahgopdamgagkaa", sum := "c66b0a74c26c2ca0a8cc94dbc3a8f232278cb2f1aaf994a518ba60ad974eee46", func := "cabochon/cabochonlaw18.LineageKeeps", spec := "lineageKeeps", unfollowed := true, recurses := true, apart := false, narrowed := true }
def LineageKeepsUptoSaid : Prop := lineageKeepsUptoRow.holds Try.pinned (OpenSpec.upto lineageKeepsSpec)

/-- 'cabochonlaw18.LineageCopies', WHERE WHAT IT READS IS OF BULK AT MOST 1048576: true; the input reads as it did. -/
def lineageCopiesUptoRow : OpenClaim := { program := "ytahgopdamgagkaa", sum := "c66b0a74c26c2ca0a8cc94dbc3a8f232278cb2f1aaf994a518ba60ad974eee46", func := "cabochon/cabochonlaw18.LineageCopies", spec := "lineageCopies", unfollowed := true, recurses := true, apart := false, narrowed := true }
def LineageCopiesUptoSaid : Prop := lineageCopiesUptoRow.holds Try.pinned (OpenSpec.upto lineageCopiesSpec)

/-- 'cabochonlaw18.LineageOwns', WHERE WHAT IT READS IS OF BULK AT MOST 1048576: true; the input reads as it did. -/
def lineageOwnsUptoRow : OpenClaim := { program := "ytahgopdamgagkaa", sum := "c66b0a74c26c2ca0a8cc94dbc3a8f232278cb2f1aaf994a518ba60ad974eee46", func := "cabochon/cabochonlaw18.LineageOwns", spec := "lineageOwns", unfollowed := true, recurses := true, apart := false, narrowed := true }
def LineageOwnsUptoSaid : Prop := lineageOwnsUptoRow.holds Try.pinned (OpenSpec.upto lineageOwnsSpec)

/-- 'cabochonlaw18.LineageLive', WHERE WHAT IT READS IS OF BULK AT MOST 1048576: true; the input reads as it did. -/
def lineageLiveUptoRow : OpenClaim := { program := "ytahgopdamgagkaa", sum := "c66b0a74c26c2ca0a8cc94dbc3a8f232278cb2f1aaf994a518ba60ad974eee46", func := "cabochon/cabochonlaw18.LineageLive", spec := "lineageLive", unfollowed := true, recurses := true, apart := false, narrowed := true }
def LineageLiveUptoSaid : Prop := lineageLiveUptoRow.holds Try.pinned (OpenSpec.upto lineageLiveSpec)

/-- 'cabochonlaw18.LineageBelow', WHERE WHAT IT READS IS OF BULK AT MOST 1048576: true; the input reads as it did. -/
def lineageBelowUptoRow : OpenClaim := { program := "ytahgopdamgagkaa", sum := "c66b0a74c26c2ca0a8cc94dbc3a8f232278cb2f1aaf994a518ba60ad974eee46", func := "cabochon/cabochonlaw18.LineageBelow", spec := "lineageBelow", unfollowed := true, recurses := true, apart := false, narrowed := true }
def LineageBelowUptoSaid : Prop := lineageBelowUptoRow.holds Try.pinned (OpenSpec.upto lineageBelowSpec)

/-- 'cabochonlaw18.LineageNothing', WHERE WHAT IT READS IS OF BULK AT MOST 1048576: true; the input reads as it did. -/
def lineageNothingUptoRow : OpenClaim := { program := "ytahgopdamgagkaa", sum := "c66b0a74c26c2ca0a8cc94dbc3a8f232278cb2f1aaf994a518ba60ad974eee46", func := "cabochon/cabochonlaw18.LineageNothing", spec := "lineageNothing", unfollowed := true, recurses := true, apart := false, narrowed := true }
def LineageNothingUptoSaid : Prop := lineageNothingUptoRow.holds Try.pinned (OpenSpec.upto lineageNothingSpec)

end Rows
end Go.Proofs.Ytahgopdamgagkaa
