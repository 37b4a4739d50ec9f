/-
  No cell of these rows narrows 'for every input' (looked for: loops, veiled, ifaces, maps, wideKeys, modest, calm, conditions, laid).
  DERIVED. THE GIVEN ROWS OF THIS SEAT. 5 by the template 'for every input the law returns true; each argument reads behind the call as it read before'; 0 by the template 'total and deterministic' (their statements: YtbhigdljojlhnaaGreatTotals.lean).
  GIVEN WITH THE SEED: the statements are not yours to turn. If you find one false, say at which input.
  Laid BY PROGRAM, IN A SANDBOX (cutbox-rows.mjs): the forced cells as the released guide's own fill.sh prints them over the translation 4c2d05cdd3c3897e… (all of the seat's roots in one cut). By AI agents, Wed Nov 11 2026. No macro, syntax, notation, axiom, sorry.
-/
import Derived.Test.YtbhigdljojlhnaaGreatChecked
import GoSem.Claim
import GoSem.ClaimJoined
import GoSem.ClaimMapViews
import Derived.JoinedTies
import Derived.KernelRfl
namespace Go.Proofs.YtbhigdljojlhnaaGreat
/- THE CELL 'sum', in the pinned program and in every row, IS THE sha256 OF THE DUMP (.gsa) THAT YtbhigdljojlhnaaGreatProg.lean LOADS. Nothing in Lean hashes anything: it is a label: what it is worth is what the hold of that sum in a sandbox is worth. -/
noncomputable def Tryz.pinned : Pinned := { name := "ytbhigdljojlhnaagreat", sum := "4c2d05cdd3c3897eb82621afed0bbece9038c60e95b54c0b783188e7cb01cf79", checked := Tryz.checked }
namespace Rows
def none {H : Type} : Left H := { results := [], args := [] }

/-- 'cabochonlaw19.MethodLeaves': WHATEVER THE INPUT: true; the input reads as it did. -/
def methodLeavesSpec : ChangeSpec := { name := "methodLeaves", fn := fun _ => fun
  | [d1, d2, d3] => { results := [.lit (.bool true)], args := [d1, d2, d3] }
  | _ => none }
def methodLeavesRow : OpenClaim := { program := "ytbhigdljojlhnaagreat", sum := "4c2d05cdd3c3897eb82621afed0bbece9038c60e95b54c0b783188e7cb01cf79", func := "cabochon/cabochonlaw19.MethodLeaves", spec := "methodLeaves", unfollowed := true, recurses := true, plainKeys := false, apart := false }
def MethodLeavesSaid : Prop := methodLeavesRow.holds Tryz.pinned (OpenSpec.ofChange methodLeavesSpec)

/-- ITS FALSE NEIGHBOUR: 'it returns false'. Refute it at one input. -/
def methodLeavesWrong : ChangeSpec := { name := "methodLeaves", fn := fun _ => fun
  | [d1, d2, d3] => { results := [.lit (.bool false)], args := [d1, d2, d3] }
  | _ => none }
def MethodLeavesWrongFalsely : Prop := methodLeavesRow.holds Tryz.pinned (OpenSpec.ofChange methodLeavesWrong)

/-- 'cabochonlaw19.MethodCopies': WHATEVER THE INPUT: true; the input reads as it did. -/
def methodCopiesSpec : ChangeSpec := { name := "methodCopies", fn := fun _ => fun
  | [d1, d2] => { results := [.lit (.bool true)], args := [d1, d2] }
  | _ => none }
def methodCopiesRow : OpenClaim := { program := "ytbhigdljojlhnaagreat", sum := "4c2d05cdd3c3897eb82621afed0bbece9038c60e95b54c0b783188e7cb01cf79", func := "cabochon/cabochonlaw19.MethodCopies", spec := "methodCopies", inPlace := ["maps.clone"], unfollowed := true, recurses := true, plainKeys := false, apart := false }
def MethodCopiesSaid : Prop := methodCopiesRow.holds Tryz.pinned (OpenSpec.ofChange methodCopiesSpec)

/-- ITS FALSE NEIGHBOUR: 'it returns false'. Refute it at one input. -/
def methodCopiesWrong : ChangeSpec := { name := "methodCopies", fn := fun _ => fun
  | [d1, d2] => { results := [.lit (.bool false)], args := [d1, d2] }
  | _ => none }
def MethodCopiesWrongFalsely : Prop := methodCopiesRow.holds Tryz.pinned (OpenSpec.ofChange methodCopiesWrong)

/-- 'cabochonlaw19.MethodAliases': WHATEVER THE INPUT: true; the input reads as it did. -/
def methodAliasesSpec : ChangeSpec := { name := "methodAliases", fn := fun _ => fun
  | [d1, d2] => { results := [.lit (.bool true)], args := [d1, d2] }
  | _ => none }
def methodAliasesRow : OpenClaim := { program := "ytbhigdljojlhnaagreat", sum := "4c2d05cdd3c3897eb82621afed0bbece9038c60e95b54c0b783188e7cb01cf79", func := "cabochon/cabochonlaw19.MethodAliases", spec := "methodAliases", unfollowed := true, recurses := true, plainKeys := false, apart := false }
def MethodAliasesSaid : Prop := methodAliasesRow.holds Tryz.pinned (OpenSpec.ofChange methodAliasesSpec)

/-- ITS FALSE NEIGHBOUR: 'it returns false'. Refute it at one input. -/
def methodAliasesWrong : ChangeSpec := { name := "methodAliases", fn := fun _ => fun
  | [d1, d2] => { results := [.lit (.bool false)], args := [d1, d2] }
  | _ => none }
def MethodAliasesWrongFalsely : Prop := methodAliasesRow.holds Tryz.pinned (OpenSpec.ofChange methodAliasesWrong)

/-- 'cabochonlaw19.MethodRefined': WHATEVER THE INPUT: true; the input reads as it did. -/
def methodRefinedSpec : ChangeSpec := { name := "methodRefined", fn := fun _ => fun
  | [d] => { results := [.lit (.bool true)], args := [d] }
  | _ => none }
def methodRefinedRow : OpenClaim := { program := "ytbhigdljojlhnaagreat", sum := "4c2d05cdd3c3897eb82621afed0bbece9038c60e95b54c0b783188e7cb01cf79", func := "cabochon/cabochonlaw19.MethodRefined", spec := "methodRefined", unfollowed := true, recurses := true, plainKeys := false, apart := false }
def MethodRefinedSaid : Prop := methodRefinedRow.holds Tryz.pinned (OpenSpec.ofChange methodRefinedSpec)

/-- ITS FALSE NEIGHBOUR: 'it returns false'. Refute it at one input. -/
def methodRefinedWrong : ChangeSpec := { name := "methodRefined", fn := fun _ => fun
  | [d] => { results := [.lit (.bool false)], args := [d] }
  | _ => none }
def MethodRefinedWrongFalsely : Prop := methodRefinedRow.holds Tryz.pinned (OpenSpec.ofChange methodRefinedWrong)

/-- 'cabochonlaw19.MethodChains': WHATEVER THE INPUT: true; the input reads as it did. -/
def methodChainsSpec : ChangeSpec := { name := "methodChains", fn := fun _ => fun
  | [d1, d2] => { results := [.lit (.bool true)], args := [d1, d2] }
  | _ => none }
def methodChainsRow : OpenClaim := { program := "ytbhigdljojlhnaagreat", sum := "4c2d05cdd3c3897eb82621afed0bbece9038c60e95b54c0b783188e7cb01cf79", func := "cabochon/cabochonlaw19.MethodChains", spec := "methodChains", unfollowed := true, recurses := true, plainKeys := false, apart := false }
def MethodChainsSaid : Prop := methodChainsRow.holds Tryz.pinned (OpenSpec.ofChange methodChainsSpec)

/-- ITS FALSE NEIGHBOUR: 'it returns false'. Refute it at one input. -/
def methodChainsWrong : ChangeSpec := { name := "methodChains", fn := fun _ => fun
  | [d1, d2] => { results := [.lit (.bool false)], args := [d1, d2] }
  | _ => none }
def MethodChainsWrongFalsely : Prop := methodChainsRow.holds Tryz.pinned (OpenSpec.ofChange methodChainsWrong)

/- THE SECOND FORM. 'bulk': how many values and letters a reading holds, each counted each time it is reached (what is shared counts as often as it is met; a slice's spare places count too). A statement '..UptoSaid' is the law's where the arguments, and the package variables that the reading takes, are together of bulk at most 1048576: NARROWER than '..Said'. Prove '..Said' where nothing that the law and all that it calls make is longer than what came in: it says more and counts as full. Else prove '..UptoSaid'. A law counts once. -/
mutual
def uptoBulk {H : Type} : DataW H → Nat
  | .lit (.string bytes) => bytes.length + 1
  | .lit _ => 1
  | .nil => 1
  | .ptr d => uptoBulk d + 1
  | .slice elems spare => uptoBulkAll elems + uptoBulkAll spare + 1
  | .agg parts => uptoBulkAll parts + 1
  | .iface _ d => uptoBulk d + 1
  | .map entries => uptoBulkEntries entries + 1
  | .held _ => 1
def uptoBulkAll {H : Type} : List (DataW H) → Nat
  | [] => 0
  | d :: r => uptoBulk d + uptoBulkAll r
def uptoBulkEntries {H : Type} : List (Lit × DataW H) → Nat
  | [] => 0
  | x :: r => uptoBulkEntry x + uptoBulkEntries r
def uptoBulkEntry {H : Type} : Lit × DataW H → Nat
  | (.string bytes, d) => bytes.length + uptoBulk d + 1
  | (_, d) => uptoBulk d + 1
 end
def uptoSmall : (H : Type) → List (DataW H) → Bool := fun _ ds => decide (uptoBulkAll ds ≤ 1048576)
def OpenSpec.upto (s : _root_.Go.ChangeSpec) : _root_.Go.OpenSpec := { _root_.Go.OpenSpec.ofChange s with cond := some uptoSmall }

/-- 'cabochonlaw19.MethodLeaves', WHERE WHAT IT READS IS OF BULK AT MOST 1048576: true; the input reads as it did. -/
def methodLeavesUptoRow : OpenClaim := { program := "ytbhigdljojlhnaagreat", sum := "4c2d05cdd3c3897eb82621afed0bbece9038c60e95b54c0b783188e7cb01cf79", func := "cabochon/cabochonlaw19.MethodLeaves", spec := "methodLeaves", unfollowed := true, recurses := true, plainKeys := false, apart := false, narrowed := true }
def MethodLeavesUptoSaid : Prop := methodLeavesUptoRow.holds Tryz.pinned (OpenSpec.upto methodLeavesSpec)

/-- 'cabochonlaw19.MethodCopies', WHERE WHAT IT READS IS OF BULK AT MOST 1048576: true; the input reads as it did. -/
def methodCopiesUptoRow : OpenClaim := { program := "ytbhigdljojlhnaagreat", sum := "4c2d05cdd3c3897eb82621afed0bbece9038c60e95b54c0b783188e7cb01cf79", func := "cabochon/cabochonlaw19.MethodCopies", spec := "methodCopies", inPlace := ["maps.clone"], unfollowed := true, recurses := true, plainKeys := false, apart := false, narrowed := true }
def MethodCopiesUptoSaid : Prop := methodCopiesUptoRow.holds Tryz.pinned (OpenSpec.upto methodCopiesSpec)

/-- 'cabochonlaw19.MethodAliases', WHERE WHAT IT READS IS OF BULK AT MOST 1048576: true; the input reads as it did. -/
def methodAliasesUptoRow : OpenClaim := { program := "ytbhigdljojlhnaagreat", sum := "4c2d05cdd3c3897eb82621afed0bbece9038c60e95b54c0b783188e7cb01cf79", func := "cabochon/cabochonlaw19.MethodAliases", spec := "methodAliases", unfollowed := true, recurses := true, plainKeys := false, apart := false, narrowed := true }
def MethodAliasesUptoSaid : Prop := methodAliasesUptoRow.holds Tryz.pinned (OpenSpec.upto methodAliasesSpec)

/-- 'cabochonlaw19.MethodRefined', WHERE WHAT IT READS IS OF BULK AT MOST 1048576: true; the input reads as it did. -/
def methodRefinedUptoRow : OpenClaim := { program := "ytbhigdljojlhnaagreat", sum := "4c2d05cdd3c3897eb82621afed0bbece9038c60e95b54c0b783188e7cb01cf79", func := "cabochon/cabochonlaw19.MethodRefined", spec := "methodRefined", unfollowed := true, recurses := true, plainKeys := false, apart := false, narrowed := true }
def MethodRefinedUptoSaid : Prop := methodRefinedUptoRow.holds Tryz.pinned (OpenSpec.upto methodRefinedSpec)

/-- 'cabochonlaw19.MethodChains', WHERE WHAT IT READS IS OF BULK AT MOST 1048576: true; the input reads as it did. -/
def methodChainsUptoRow : OpenClaim := { program := "ytbhigdljojlhnaagreat", sum := "4c2d05cdd3c3897eb82621afed0bbece9038c60e95b54c0b783188e7cb01cf79", func := "cabochon/cabochonlaw19.MethodChains", spec := "methodChains", unfollowed := true, recurses := true, plainKeys := false, apart := false, narrowed := true }
def MethodChainsUptoSaid : Prop := methodChainsUptoRow.holds Tryz.pinned (OpenSpec.upto methodChainsSpec)

end Rows
end Go.Proofs.YtbhigdljojlhnaaGreat
