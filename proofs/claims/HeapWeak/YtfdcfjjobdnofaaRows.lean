/-
  No cell of these rows narrows 'for every input' (looked for: loops, veiled, ifaces, maps, wideKeys, modest, calm, conditions, laid).
  DERIVED. THE GIVEN ROWS OF THIS SEAT. 7 by the template 'for every input the law returns true; each argument reads behind the call as it read before'; 0 by the template 'total and deterministic' (their statements: YtfdcfjjobdnofaaTotals.lean).
  GIVEN WITH THE SEED: the statements are not yours to turn. If you find one false, say at which input.
  Laid BY PROGRAM, IN A SANDBOX (cutbox-rows.mjs): the forced cells as the released guide's own fill.sh prints them over the translation f0986dd1d2e0c562… (all of the seat's roots in one cut). By AI agents, Wed Nov 11 2026. No macro, syntax, notation, axiom, sorry.
-/
import Derived.Test.YtfdcfjjobdnofaaChecked
import GoSem.Claim
import GoSem.ClaimJoined
import GoSem.ClaimMapViews
import Derived.JoinedTies
import Derived.KernelRfl
namespace Go.Proofs.Ytfdcfjjobdnofaa
/- THE CELL 'sum', in the pinned program and in every row, IS THE sha256 OF THE DUMP (.gsa) THAT YtfdcfjjobdnofaaProg.lean LOADS. Nothing in Lean hashes anything: it is a label: what it is worth is what the hold of that sum in a sandbox is worth. -/
noncomputable def Try.pinned : Pinned := { name := "ytfdcfjjobdnofaa", sum := "f0986dd1d2e0c562a69dfec5d67b26471e5d74eeb2b58b5d1f678abff247c731", checked := Try.checked }
namespace Rows
def none {H : Type} : Left H := { results := [], args := [] }

/-- 'cabochonlaw27.HeapWeak': WHATEVER THE INPUT: true; the input reads as it did. -/
def heapWeakSpec : ChangeSpec := { name := "heapWeak", fn := fun _ => fun
  | [d1, d2, d3] => { results := [.lit (.bool true)], args := [d1, d2, d3] }
  | _ => none }
def heapWeakRow : OpenClaim := { program := "ytfdcfjjobdnofaa", sum := "f0986dd1d2e0c562a69dfec5d67b26471e5d74eeb2b58b5d1f678abff247c731", func := "cabochon/cabochonlaw27.HeapWeak", spec := "heapWeak", unfollowed := true, recurses := true, apart := false }
def HeapWeakSaid : Prop := heapWeakRow.holds Try.pinned (OpenSpec.ofChange heapWeakSpec)

/-- ITS FALSE NEIGHBOUR: 'it returns false'. Refute it at one input. -/
def heapWeakWrong : ChangeSpec := { name := "heapWeak", fn := fun _ => fun
  | [d1, d2, d3] => { results := [.lit (.bool false)], args := [d1, d2, d3] }
  | _ => none }
def HeapWeakWrongFalsely : Prop := heapWeakRow.holds Try.pinned (OpenSpec.ofChange heapWeakWrong)

/-- 'cabochonlaw27.HeapFinals': WHATEVER THE INPUT: true; the input reads as it did. -/
def heapFinalsSpec : ChangeSpec := { name := "heapFinals", fn := fun _ => fun
  | [d1, d2] => { results := [.lit (.bool true)], args := [d1, d2] }
  | _ => none }
def heapFinalsRow : OpenClaim := { program := "ytfdcfjjobdnofaa", sum := "f0986dd1d2e0c562a69dfec5d67b26471e5d74eeb2b58b5d1f678abff247c731", func := "cabochon/cabochonlaw27.HeapFinals", spec := "heapFinals", unfollowed := true, recurses := true, apart := false }
def HeapFinalsSaid : Prop := heapFinalsRow.holds Try.pinned (OpenSpec.ofChange heapFinalsSpec)

/-- ITS FALSE NEIGHBOUR: 'it returns false'. Refute it at one input. -/
def heapFinalsWrong : ChangeSpec := { name := "heapFinals", fn := fun _ => fun
  | [d1, d2] => { results := [.lit (.bool false)], args := [d1, d2] }
  | _ => none }
def HeapFinalsWrongFalsely : Prop := heapFinalsRow.holds Try.pinned (OpenSpec.ofChange heapFinalsWrong)

/-- 'cabochonlaw27.HeapKeeps': WHATEVER THE INPUT: true; the input reads as it did. -/
def heapKeepsSpec : ChangeSpec := { name := "heapKeeps", fn := fun _ => fun
  | [d1, d2, d3] => { results := [.lit (.bool true)], args := [d1, d2, d3] }
  | _ => none }
def heapKeepsRow : OpenClaim := { program := "ytfdcfjjobdnofaa", sum := "f0986dd1d2e0c562a69dfec5d67b26471e5d74eeb2b58b5d1f678abff247c731", func := "cabochon/cabochonlaw27.HeapKeeps", spec := "heapKeeps", unfollowed := true, recurses := true, apart := false }
def HeapKeepsSaid : Prop := heapKeepsRow.holds Try.pinned (OpenSpec.ofChange heapKeepsSpec)

/-- ITS FALSE NEIGHBOUR: 'it returns false'. Refute it at one input. -/
def heapKeepsWrong : ChangeSpec := { name := "heapKeeps", fn := fun _ => fun
  | [d1, d2, d3] => { results := [.lit (.bool false)], args := [d1, d2, d3] }
  | _ => none }
def HeapKeepsWrongFalsely : Prop := heapKeepsRow.holds Try.pinned (OpenSpec.ofChange heapKeepsWrong)

/-- 'cabochonlaw27.HeapMajor': WHATEVER THE INPUT: true; the input reads as it did. -/
def heapMajorSpec : ChangeSpec := { name := "heapMajor", fn := fun _ => fun
  | [d1, d2] => { results := [.lit (.bool true)], args := [d1, d2] }
  | _ => none }
def heapMajorRow : OpenClaim := { program := "ytfdcfjjobdnofaa", sum := "f0986dd1d2e0c562a69dfec5d67b26471e5d74eeb2b58b5d1f678abff247c731", func := "cabochon/cabochonlaw27.HeapMajor", spec := "heapMajor", unfollowed := true, recurses := true, apart := false }
def HeapMajorSaid : Prop := heapMajorRow.holds Try.pinned (OpenSpec.ofChange heapMajorSpec)

/-- ITS FALSE NEIGHBOUR: 'it returns false'. Refute it at one input. -/
def heapMajorWrong : ChangeSpec := { name := "heapMajor", fn := fun _ => fun
  | [d1, d2] => { results := [.lit (.bool false)], args := [d1, d2] }
  | _ => none }
def HeapMajorWrongFalsely : Prop := heapMajorRow.holds Try.pinned (OpenSpec.ofChange heapMajorWrong)

/-- 'cabochonlaw27.HeapPlays': WHATEVER THE INPUT: true; the input reads as it did. -/
def heapPlaysSpec : ChangeSpec := { name := "heapPlays", fn := fun _ => fun
  | [d1, d2] => { results := [.lit (.bool true)], args := [d1, d2] }
  | _ => none }
def heapPlaysRow : OpenClaim := { program := "ytfdcfjjobdnofaa", sum := "f0986dd1d2e0c562a69dfec5d67b26471e5d74eeb2b58b5d1f678abff247c731", func := "cabochon/cabochonlaw27.HeapPlays", spec := "heapPlays", unfollowed := true, recurses := true, apart := false }
def HeapPlaysSaid : Prop := heapPlaysRow.holds Try.pinned (OpenSpec.ofChange heapPlaysSpec)

/-- ITS FALSE NEIGHBOUR: 'it returns false'. Refute it at one input. -/
def heapPlaysWrong : ChangeSpec := { name := "heapPlays", fn := fun _ => fun
  | [d1, d2] => { results := [.lit (.bool false)], args := [d1, d2] }
  | _ => none }
def HeapPlaysWrongFalsely : Prop := heapPlaysRow.holds Try.pinned (OpenSpec.ofChange heapPlaysWrong)

/-- 'cabochonlaw27.HeapTells': WHATEVER THE INPUT: true; the input reads as it did. -/
def heapTellsSpec : ChangeSpec := { name := "heapTells", fn := fun _ => fun
  | [d1, d2, d3] => { results := [.lit (.bool true)], args := [d1, d2, d3] }
  | _ => none }
def heapTellsRow : OpenClaim := { program := "ytfdcfjjobdnofaa", sum := "f0986dd1d2e0c562a69dfec5d67b26471e5d74eeb2b58b5d1f678abff247c731", func := "cabochon/cabochonlaw27.HeapTells", spec := "heapTells", unfollowed := true, recurses := true, apart := false }
def HeapTellsSaid : Prop := heapTellsRow.holds Try.pinned (OpenSpec.ofChange heapTellsSpec)

/-- ITS FALSE NEIGHBOUR: 'it returns false'. Refute it at one input. -/
def heapTellsWrong : ChangeSpec := { name := "heapTells", fn := fun _ => fun
  | [d1, d2, d3] => { results := [.lit (.bool false)], args := [d1, d2, d3] }
  | _ => none }
def HeapTellsWrongFalsely : Prop := heapTellsRow.holds Try.pinned (OpenSpec.ofChange heapTellsWrong)

/-- 'cabochonlaw27.HeapNothing': WHATEVER THE INPUT: true; the input reads as it did. -/
def heapNothingSpec : ChangeSpec := { name := "heapNothing", fn := fun _ => fun
  | [d1, d2, d3] => { results := [.lit (.bool true)], args := [d1, d2, d3] }
  | _ => none }
def heapNothingRow : OpenClaim := { program := "ytfdcfjjobdnofaa", sum := "f0986dd1d2e0c562a69dfec5d67b26471e5d74eeb2b58b5d1f678abff247c731", func := "cabochon/cabochonlaw27.HeapNothing", spec := "heapNothing", unfollowed := true, recurses := true, apart := false }
def HeapNothingSaid : Prop := heapNothingRow.holds Try.pinned (OpenSpec.ofChange heapNothingSpec)

/-- ITS FALSE NEIGHBOUR: 'it returns false'. Refute it at one input. -/
def heapNothingWrong : ChangeSpec := { name := "heapNothing", fn := fun _ => fun
  | [d1, d2, d3] => { results := [.lit (.bool false)], args := [d1, d2, d3] }
  | _ => none }
def HeapNothingWrongFalsely : Prop := heapNothingRow.holds Try.pinned (OpenSpec.ofChange heapNothingWrong)

/- THE SECOND FORM. 'bulk': how many values and letters a reading holds, each counted each time it is reached (what is shared counts as often as it is met; a slice's spare places count too). A statement '..UptoSaid' is the law's where the arguments, and the package variables that the reading takes, are together of bulk at most 1048576: NARROWER than '..Said'. Prove '..Said' where nothing that the law and all that it calls make is longer than what came in: it says more and counts as full. Else prove '..UptoSaid'. A law counts once. -/
mutual
def uptoBulk {H : Type} : DataW H → Nat
  | .lit (.string bytes) => bytes.length + 1
  | .lit _ => 1
  | .nil => 1
  | .ptr d => uptoBulk d + 1
  | .slice elems spare => uptoBulkAll elems + uptoBulkAll spare + 1
  | .agg parts => uptoBulkAll parts + 1
  | .iface _ d => uptoBulk d + 1
  | .map entries => uptoBulkEntries entries + 1
  | .held _ => 1
def uptoBulkAll {H : Type} : List (DataW H) → Nat
  | [] => 0
  | d :: r => uptoBulk d + uptoBulkAll r
def uptoBulkEntries {H : Type} : List (Lit × DataW H) → Nat
  | [] => 0
  | x :: r => uptoBulkEntry x + uptoBulkEntries r
def uptoBulkEntry {H : Type} : Lit × DataW H → Nat
  | (.string bytes, d) => bytes.length + uptoBulk d + 1
  | (_, d) => uptoBulk d + 1
 end
def uptoSmall : (H : Type) → List (DataW H) → Bool := fun _ ds => decide (uptoBulkAll ds ≤ 1048576)
def OpenSpec.upto (s : _root_.Go.ChangeSpec) : _root_.Go.OpenSpec := { _root_.Go.OpenSpec.ofChange s with cond := some uptoSmall }

/-- 'cabochonlaw27.HeapWeak', WHERE WHAT IT READS IS OF BULK AT MOST 1048576: true; the input reads as it did. -/
def heapWeakUptoRow : OpenClaim := { program := "ytfdcfjjobdnofaa", sum := "f0986dd1d2e0c562a69dfec5d67b26471e5d74eeb2b58b5d1f678abff247c731", func := "cabochon/cabochonlaw27.HeapWeak", spec := "heapWeak", unfollowed := true, recurses := true, apart := false, narrowed := true }
def HeapWeakUptoSaid : Prop := heapWeakUptoRow.holds Try.pinned (OpenSpec.upto heapWeakSpec)

/-- 'cabochonlaw27.HeapFinals', WHERE WHAT IT READS IS OF BULK AT MOST 1048576: true; the input reads as it did. -/
def heapFinalsUptoRow : OpenClaim := { program := "ytfdcfjjobdnofaa", sum := "f0986dd1d2e0c562a69dfec5d67b26471e5d74eeb2b58b5d1f678abff247c731", func := "cabochon/cabochonlaw27.HeapFinals", spec := "heapFinals", unfollowed := true, recurses := true, apart := false, narrowed := true }
def HeapFinalsUptoSaid : Prop := heapFinalsUptoRow.holds Try.pinned (OpenSpec.upto heapFinalsSpec)

/-- 'cabochonlaw27.HeapKeeps', WHERE WHAT IT READS IS OF BULK AT MOST 1048576: true; the input reads as it did. -/
def heapKeepsUptoRow : OpenClaim := { program := "ytfdcfjjobdnofaa", sum := "f0986dd1d2e0c562a69dfec5d67b26471e5d74eeb2b58b5d1f678abff247c731", func := "cabochon/cabochonlaw27.HeapKeeps", spec := "heapKeeps", unfollowed := true, recurses := true, apart := false, narrowed := true }
def HeapKeepsUptoSaid : Prop := heapKeepsUptoRow.holds Try.pinned (OpenSpec.upto heapKeepsSpec)

/-- 'cabochonlaw27.HeapMajor', WHERE WHAT IT READS IS OF BULK AT MOST 1048576: true; the input reads as it did. -/
def heapMajorUptoRow : OpenClaim := { program := "ytfdcfjjobdnofaa", sum := "f0986dd1d2e0c562a69dfec5d67b26471e5d74eeb2b58b5d1f678abff247c731", func := "cabochon/cabochonlaw27.HeapMajor", spec := "heapMajor", unfollowed := true, recurses := true, apart := false, narrowed := true }
def HeapMajorUptoSaid : Prop := heapMajorUptoRow.holds Try.pinned (OpenSpec.upto heapMajorSpec)

/-- 'cabochonlaw27.HeapPlays', WHERE WHAT IT READS IS OF BULK AT MOST 1048576: true; the input reads as it did. -/
def heapPlaysUptoRow : OpenClaim := { program := "ytfdcfjjobdnofaa", sum := "f0986dd1d2e0c562a69dfec5d67b26471e5d74eeb2b58b5d1f678abff247c731", func := "cabochon/cabochonlaw27.HeapPlays", spec := "heapPlays", unfollowed := true, recurses := true, apart := false, narrowed := true }
def HeapPlaysUptoSaid : Prop := heapPlaysUptoRow.holds Try.pinned (OpenSpec.upto heapPlaysSpec)

/-- 'cabochonlaw27.HeapTells', WHERE WHAT IT READS IS OF BULK AT MOST 1048576: true; the input reads as it did. -/
def heapTellsUptoRow : OpenClaim := { program := "ytfdcfjjobdnofaa", sum := "f0986dd1d2e0c562a69dfec5d67b26471e5d74eeb2b58b5d1f678abff247c731", func := "cabochon/cabochonlaw27.HeapTells", spec := "heapTells", unfollowed := true, recurses := true, apart := false, narrowed := true }
def HeapTellsUptoSaid : Prop := heapTellsUptoRow.holds Try.pinned (OpenSpec.upto heapTellsSpec)

/-- 'cabochonlaw27.HeapNothing', WHERE WHAT IT READS IS OF BULK AT MOST 1048576: true; the input reads as it did. -/
def heapNothingUptoRow : OpenClaim := { program := "ytfdcfjjobdnofaa", sum := "f0986dd1d2e0c562a69dfec5d67b26471e5d74eeb2b58b5d1f678abff247c731", func := "cabochon/cabochonlaw27.HeapNothing", spec := "heapNothing", unfollowed := true, recurses := true, apart := false, narrowed := true }
def HeapNothingUptoSaid : Prop := heapNothingUptoRow.holds Try.pinned (OpenSpec.upto heapNothingSpec)

end Rows
end Go.Proofs.Ytfdcfjjobdnofaa
