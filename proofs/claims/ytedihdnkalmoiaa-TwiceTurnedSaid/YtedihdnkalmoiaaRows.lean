/-
  No cell of these rows narrows 'for every input' (looked for: loops, veiled, ifaces, maps, wideKeys, modest, calm, conditions, laid).
  DERIVED. THE GIVEN ROWS OF THIS SEAT. 9 by the template 'for every input the law returns true; each argument reads behind the call as it read before'; 0 by the template 'total and deterministic' (their statements: YtedihdnkalmoiaaTotals.lean).
  GIVEN WITH THE SEED: the statements are not yours to turn. If you find one false, say at which input.
  Laid BY PROGRAM, IN A SANDBOX (cutbox-rows.mjs): the forced cells as the released guide's own fill.sh prints them over the translation 51141743d591e56e… (all of the seat's roots in one cut). By AI agents, Wed Nov 11 2026. No macro, syntax, notation, axiom, sorry.
-/
import Derived.Test.YtedihdnkalmoiaaChecked
import GoSem.Claim
import GoSem.ClaimJoined
import GoSem.ClaimMapViews
import Derived.JoinedTies
import Derived.KernelRfl
namespace Go.Proofs.Ytedihdnkalmoiaa
/- THE CELL 'sum', in the pinned program and in every row, IS THE sha256 OF THE DUMP (.gsa) THAT YtedihdnkalmoiaaProg.lean LOADS. Nothing in Lean hashes anything: it is a label: what it is worth is what the hold of that sum in a sandbox is worth. -/
noncomputable def Try.pinned : Pinned := { name := "ytedihdnkalmoiaa", sum := "51141743d591e56ed9503c882db4213e1938c983353a286146dc7025151fd4de", checked := Try.checked }
namespace Rows
def none {H : Type} : Left H := { results := [], args := [] }

/-- 'zoneworkslaw11.TwiceReads': WHATEVER THE INPUT: true; the input reads as it did. -/
def twiceReadsSpec : ChangeSpec := { name := "twiceReads", fn := fun _ => fun
  | [d1, d2, d3] => { results := [.lit (.bool true)], args := [d1, d2, d3] }
  | _ => none }
def twiceReadsRow : OpenClaim := { program := "ytedihdnkalmoiaa", sum := "51141743d591e56ed9503c882db4213e1938c983353a286146dc7025151fd4de", func := "zoneworks/zoneworkslaw11.TwiceReads", spec := "twiceReads", unfollowed := true, recurses := true, apart := false }
def TwiceReadsSaid : Prop := twiceReadsRow.holds Try.pinned (OpenSpec.ofChange twiceReadsSpec)

/-- ITS FALSE NEIGHBOUR: 'it returns false'. Refute it at one input. -/
def twiceReadsWrong : ChangeSpec := { name := "twiceReads", fn := fun _ => fun
  | [d1, d2, d3] => { results := [.lit (.bool false)], args := [d1, d2, d3] }
  | _ => none }
def TwiceReadsWrongFalsely : Prop := twiceReadsRow.holds Try.pinned (OpenSpec.ofChange twiceReadsWrong)

/-- 'zoneworkslaw11.TwiceSets': WHATEVER THE INPUT: true; the input reads as it did. -/
def twiceSetsSpec : ChangeSpec := { name := "twiceSets", fn := fun _ => fun
  | [d] => { results := [.lit (.bool true)], args := [d] }
  | _ => none }
def twiceSetsRow : OpenClaim := { program := "ytedihdnkalmoiaa", sum := "51141743d591e56ed9503c882db4213e1938c983353a286146dc7025151fd4de", func := "zoneworks/zoneworkslaw11.TwiceSets", spec := "twiceSets", unfollowed := true, recurses := true, apart := false }
def TwiceSetsSaid : Prop := twiceSetsRow.holds Try.pinned (OpenSpec.ofChange twiceSetsSpec)

/-- ITS FALSE NEIGHBOUR: 'it returns false'. Refute it at one input. -/
def twiceSetsWrong : ChangeSpec := { name := "twiceSets", fn := fun _ => fun
  | [d] => { results := [.lit (.bool false)], args := [d] }
  | _ => none }
def TwiceSetsWrongFalsely : Prop := twiceSetsRow.holds Try.pinned (OpenSpec.ofChange twiceSetsWrong)

/-- 'zoneworkslaw11.TwiceTrue': WHATEVER THE INPUT: true; the input reads as it did. -/
def twiceTrueSpec : ChangeSpec := { name := "twiceTrue", fn := fun _ => fun
  | [d] => { results := [.lit (.bool true)], args := [d] }
  | _ => none }
def twiceTrueRow : OpenClaim := { program := "ytedihdnkalmoiaa", sum := "51141743d591e56ed9503c882db4213e1938c983353a286146dc7025151fd4de", func := "zoneworks/zoneworkslaw11.TwiceTrue", spec := "twiceTrue", unfollowed := true, recurses := true, apart := false }
def TwiceTrueSaid : Prop := twiceTrueRow.holds Try.pinned (OpenSpec.ofChange twiceTrueSpec)

/-- ITS FALSE NEIGHBOUR: 'it returns false'. Refute it at one input. -/
def twiceTrueWrong : ChangeSpec := { name := "twiceTrue", fn := fun _ => fun
  | [d] => { results := [.lit (.bool false)], args := [d] }
  | _ => none }
def TwiceTrueWrongFalsely : Prop := twiceTrueRow.holds Try.pinned (OpenSpec.ofChange twiceTrueWrong)

/-- 'zoneworkslaw11.TwiceEqual': WHATEVER THE INPUT: true; the input reads as it did. -/
def twiceEqualSpec : ChangeSpec := { name := "twiceEqual", fn := fun _ => fun
  | [d] => { results := [.lit (.bool true)], args := [d] }
  | _ => none }
def twiceEqualRow : OpenClaim := { program := "ytedihdnkalmoiaa", sum := "51141743d591e56ed9503c882db4213e1938c983353a286146dc7025151fd4de", func := "zoneworks/zoneworkslaw11.TwiceEqual", spec := "twiceEqual", unfollowed := true, recurses := true, apart := false }
def TwiceEqualSaid : Prop := twiceEqualRow.holds Try.pinned (OpenSpec.ofChange twiceEqualSpec)

/-- ITS FALSE NEIGHBOUR: 'it returns false'. Refute it at one input. -/
def twiceEqualWrong : ChangeSpec := { name := "twiceEqual", fn := fun _ => fun
  | [d] => { results := [.lit (.bool false)], args := [d] }
  | _ => none }
def TwiceEqualWrongFalsely : Prop := twiceEqualRow.holds Try.pinned (OpenSpec.ofChange twiceEqualWrong)

/-- 'zoneworkslaw11.TwiceFirst': WHATEVER THE INPUT: true; the input reads as it did. -/
def twiceFirstSpec : ChangeSpec := { name := "twiceFirst", fn := fun _ => fun
  | [d1, d2] => { results := [.lit (.bool true)], args := [d1, d2] }
  | _ => none }
def twiceFirstRow : OpenClaim := { program := "ytedihdnkalmoiaa", sum := "51141743d591e56ed9503c882db4213e1938c983353a286146dc7025151fd4de", func := "zoneworks/zoneworkslaw11.TwiceFirst", spec := "twiceFirst", unfollowed := true, recurses := true, apart := false }
def TwiceFirstSaid : Prop := twiceFirstRow.holds Try.pinned (OpenSpec.ofChange twiceFirstSpec)

/-- ITS FALSE NEIGHBOUR: 'it returns false'. Refute it at one input. -/
def twiceFirstWrong : ChangeSpec := { name := "twiceFirst", fn := fun _ => fun
  | [d1, d2] => { results := [.lit (.bool false)], args := [d1, d2] }
  | _ => none }
def TwiceFirstWrongFalsely : Prop := twiceFirstRow.holds Try.pinned (OpenSpec.ofChange twiceFirstWrong)

/-- 'zoneworkslaw11.TwiceClash': WHATEVER THE INPUT: true; the input reads as it did. -/
def twiceClashSpec : ChangeSpec := { name := "twiceClash", fn := fun _ => fun
  | [d1, d2] => { results := [.lit (.bool true)], args := [d1, d2] }
  | _ => none }
def twiceClashRow : OpenClaim := { program := "ytedihdnkalmoiaa", sum := "51141743d591e56ed9503c882db4213e1938c983353a286146dc7025151fd4de", func := "zoneworks/zoneworkslaw11.TwiceClash", spec := "twiceClash", unfollowed := true, recurses := true, apart := false }
def TwiceClashSaid : Prop := twiceClashRow.holds Try.pinned (OpenSpec.ofChange twiceClashSpec)

/-- ITS FALSE NEIGHBOUR: 'it returns false'. Refute it at one input. -/
def twiceClashWrong : ChangeSpec := { name := "twiceClash", fn := fun _ => fun
  | [d1, d2] => { results := [.lit (.bool false)], args := [d1, d2] }
  | _ => none }
def TwiceClashWrongFalsely : Prop := twiceClashRow.holds Try.pinned (OpenSpec.ofChange twiceClashWrong)

/-- 'zoneworkslaw11.TwiceIdle': WHATEVER THE INPUT: true; the input reads as it did. -/
def twiceIdleSpec : ChangeSpec := { name := "twiceIdle", fn := fun _ => fun
  | [d1, d2, d3, d4] => { results := [.lit (.bool true)], args := [d1, d2, d3, d4] }
  | _ => none }
def twiceIdleRow : OpenClaim := { program := "ytedihdnkalmoiaa", sum := "51141743d591e56ed9503c882db4213e1938c983353a286146dc7025151fd4de", func := "zoneworks/zoneworkslaw11.TwiceIdle", spec := "twiceIdle", unfollowed := true, recurses := true, apart := false }
def TwiceIdleSaid : Prop := twiceIdleRow.holds Try.pinned (OpenSpec.ofChange twiceIdleSpec)

/-- ITS FALSE NEIGHBOUR: 'it returns false'. Refute it at one input. -/
def twiceIdleWrong : ChangeSpec := { name := "twiceIdle", fn := fun _ => fun
  | [d1, d2, d3, d4] => { results := [.lit (.bool false)], args := [d1, d2, d3, d4] }
  | _ => none }
def TwiceIdleWrongFalsely : Prop := twiceIdleRow.holds Try.pinned (OpenSpec.ofChange twiceIdleWrong)

/-- 'zoneworkslaw11.TwiceMore': WHATEVER THE INPUT: true; the input reads as it did. -/
def twiceMoreSpec : ChangeSpec := { name := "twiceMore", fn := fun _ => fun
  | [d1, d2, d3, d4] => { results := [.lit (.bool true)], args := [d1, d2, d3, d4] }
  | _ => none }
def twiceMoreRow : OpenClaim := { program := "ytedihdnkalmoiaa", sum := "51141743d591e56ed9503c882db4213e1938c983353a286146dc7025151fd4de", func := "zoneworks/zoneworkslaw11.TwiceMore", spec := "twiceMore", unfollowed := true, recurses := true, apart := false }
def TwiceMoreSaid : Prop := twiceMoreRow.holds Try.pinned (OpenSpec.ofChange twiceMoreSpec)

/-- ITS FALSE NEIGHBOUR: 'it returns false'. Refute it at one input. -/
def twiceMoreWrong : ChangeSpec := { name := "twiceMore", fn := fun _ => fun
  | [d1, d2, d3, d4] => { results := [.lit (.bool false)], args := [d1, d2, d3, d4] }
  | _ => none }
def TwiceMoreWrongFalsely : Prop := twiceMoreRow.holds Try.pinned (OpenSpec.ofChange twiceMoreWrong)

/-- 'zoneworkslaw11.TwiceTurned': WHATEVER THE INPUT: true; the input reads as it did. -/
def twiceTurnedSpec : ChangeSpec := { name := "twiceTurned", fn := fun _ => fun
  | [d1, d2] => { results := [.lit (.bool true)], args := [d1, d2] }
  | _ => none }
def twiceTurnedRow : OpenClaim := { program := "ytedihdnkalmoiaa", sum := "51141743d591e56ed9503c882db4213e1938c983353a286146dc7025151fd4de", func := "zoneworks/zoneworkslaw11.TwiceTurned", spec := "twiceTurned", unfollowed := true, recurses := true, apart := false }
def TwiceTurnedSaid : Prop := twiceTurnedRow.holds Try.pinned (OpenSpec.ofChange twiceTurnedSpec)

/-- ITS FALSE NEIGHBOUR: 'it returns false'. Refute it at one input. -/
def twiceTurnedWrong : ChangeSpec := { name := "twiceTurned", fn := fun _ => fun
  | [d1, d2] => { results := [.lit (.bool false)], args := [d1, d2] }
  | _ => none }
def TwiceTurnedWrongFalsely : Prop := twiceTurnedRow.holds Try.pinned (OpenSpec.ofChange twiceTurnedWrong)

/- THE SECOND FORM. 'bulk': how many values and letters a reading holds, each counted each time it is reached (what is shared counts as often as it is met; a slice's spare places count too). A statement '..UptoSaid' is the law's where the arguments, and the package variables that the reading takes, are together of bulk at most 1048576: NARROWER than '..Said'. Prove '..Said' where nothing that the law and all that it calls make is longer than what came in: it says more and counts as full. Else prove '..UptoSaid'. A law counts once. -/
mutual
def uptoBulk {H : Type} : DataW H → Nat
  | .lit (.string bytes) => bytes.length + 1
  | .lit _ => 1
  | .nil => 1
  | .ptr d => uptoBulk d + 1
  | .slice elems spare => uptoBulkAll elems + uptoBulkAll spare + 1
  | .agg parts => uptoBulkAll parts + 1
  | .iface _ d => uptoBulk d + 1
  | .map entries => uptoBulkEntries entries + 1
  | .held _ => 1
def uptoBulkAll {H : Type} : List (DataW H) → Nat
  | [] => 0
  | d :: r => uptoBulk d + uptoBulkAll r
def uptoBulkEntries {H : Type} : List (Lit × DataW H) → Nat
  | [] => 0
  | x :: r => uptoBulkEntry x + uptoBulkEntries r
def uptoBulkEntry {H : Type} : Lit × DataW H → Nat
  | (.string bytes, d) => bytes.length + uptoBulk d + 1
  | (_, d) => uptoBulk d + 1
 end
def uptoSmall : (H : Type) → List (DataW H) → Bool := fun _ ds => decide (uptoBulkAll ds ≤ 1048576)
def OpenSpec.upto (s : _root_.Go.ChangeSpec) : _root_.Go.OpenSpec := { _root_.Go.OpenSpec.ofChange s with cond := some uptoSmall }

/-- 'zoneworkslaw11.TwiceReads', WHERE WHAT IT READS IS OF BULK AT MOST 1048576: true; the input reads as it did. -/
def twiceReadsUptoRow : OpenClaim := { program := "ytedihdnkalmoiaa", sum := "51141743d591e56ed9503c882db4213e1938c983353a286146dc7025151fd4de", func := "zoneworks/zoneworkslaw11.TwiceReads", spec := "twiceReads", unfollowed := true, recurses := true, apart := false, narrowed := true }
def TwiceReadsUptoSaid : Prop := twiceReadsUptoRow.holds Try.pinned (OpenSpec.upto twiceReadsSpec)

/-- 'zoneworkslaw11.TwiceSets', WHERE WHAT IT READS IS OF BULK AT MOST 1048576: true; the input reads as it did. -/
def twiceSetsUptoRow : OpenClaim := { program := "ytedihdnkalmoiaa", sum := "51141743d591e56ed9503c882db4213e1938c983353a286146dc7025151fd4de", func := "zoneworks/zoneworkslaw11.TwiceSets", spec := "twiceSets", unfollowed := true, recurses := true, apart := false, narrowed := true }
def TwiceSetsUptoSaid : Prop := twiceSetsUptoRow.holds Try.pinned (OpenSpec.upto twiceSetsSpec)

/-- 'zoneworkslaw11.TwiceTrue', WHERE WHAT IT READS IS OF BULK AT MOST 1048576: true; the input reads as it did. -/
def twiceTrueUptoRow : OpenClaim := { program := "ytedihdnkalmoiaa", sum := "51141743d591e56ed9503c882db4213e1938c983353a286146dc7025151fd4de", func := "zoneworks/zoneworkslaw11.TwiceTrue", spec := "twiceTrue", unfollowed := true, recurses := true, apart := false, narrowed := true }
def TwiceTrueUptoSaid : Prop := twiceTrueUptoRow.holds Try.pinned (OpenSpec.upto twiceTrueSpec)

/-- 'zoneworkslaw11.TwiceEqual', WHERE WHAT IT READS IS OF BULK AT MOST 1048576: true; the input reads as it did. -/
def twiceEqualUptoRow : OpenClaim := { program := "ytedihdnkalmoiaa", sum := "51141743d591e56ed9503c882db4213e1938c983353a286146dc7025151fd4de", func := "zoneworks/zoneworkslaw11.TwiceEqual", spec := "twiceEqual", unfollowed := true, recurses := true, apart := false, narrowed := true }
def TwiceEqualUptoSaid : Prop := twiceEqualUptoRow.holds Try.pinned (OpenSpec.upto twiceEqualSpec)

/-- 'zoneworkslaw11.TwiceFirst', WHERE WHAT IT READS IS OF BULK AT MOST 1048576: true; the input reads as it did. -/
def twiceFirstUptoRow : OpenClaim := { program := "ytedihdnkalmoiaa", sum := "51141743d591e56ed9503c882db4213e1938c983353a286146dc7025151fd4de", func := "zoneworks/zoneworkslaw11.TwiceFirst", spec := "twiceFirst", unfollowed := true, recurses := true, apart := false, narrowed := true }
def TwiceFirstUptoSaid : Prop := twiceFirstUptoRow.holds Try.pinned (OpenSpec.upto twiceFirstSpec)

/-- 'zoneworkslaw11.TwiceClash', WHERE WHAT IT READS IS OF BULK AT MOST 1048576: true; the input reads as it did. -/
def twiceClashUptoRow : OpenClaim := { program := "ytedihdnkalmoiaa", sum := "51141743d591e56ed9503c882db4213e1938c983353a286146dc7025151fd4de", func := "zoneworks/zoneworkslaw11.TwiceClash", spec := "twiceClash", unfollowed := true, recurses := true, apart := false, narrowed := true }
def TwiceClashUptoSaid : Prop := twiceClashUptoRow.holds Try.pinned (OpenSpec.upto twiceClashSpec)

/-- 'zoneworkslaw11.TwiceIdle', WHERE WHAT IT READS IS OF BULK AT MOST 1048576: true; the input reads as it did. -/
def twiceIdleUptoRow : OpenClaim := { program := "ytedihdnkalmoiaa", sum := "51141743d591e56ed9503c882db4213e1938c983353a286146dc7025151fd4de", func := "zoneworks/zoneworkslaw11.TwiceIdle", spec := "twiceIdle", unfollowed := true, recurses := true, apart := false, narrowed := true }
def TwiceIdleUptoSaid : Prop := twiceIdleUptoRow.holds Try.pinned (OpenSpec.upto twiceIdleSpec)

/-- 'zoneworkslaw11.TwiceMore', WHERE WHAT IT READS IS OF BULK AT MOST 1048576: true; the input reads as it did. -/
def twiceMoreUptoRow : OpenClaim := { program := "ytedihdnkalmoiaa", sum := "51141743d591e56ed9503c882db4213e1938c983353a286146dc7025151fd4de", func := "zoneworks/zoneworkslaw11.TwiceMore", spec := "twiceMore", unfollowed := true, recurses := true, apart := false, narrowed := true }
def TwiceMoreUptoSaid : Prop := twiceMoreUptoRow.holds Try.pinned (OpenSpec.upto twiceMoreSpec)

/-- 'zoneworkslaw11.TwiceTurned', WHERE WHAT IT READS IS OF BULK AT MOST 1048576: true; the input reads as it did. -/
def twiceTurnedUptoRow : OpenClaim := { program := "ytedihdnkalmoiaa", sum := "51141743d591e56ed9503c882db4213e1938c983353a286146dc7025151fd4de", func := "zoneworks/zoneworkslaw11.TwiceTurned", spec := "twiceTurned", unfollowed := true, recurses := true, apart := false, narrowed := true }
def TwiceTurnedUptoSaid : Prop := twiceTurnedUptoRow.holds Try.pinned (OpenSpec.upto twiceTurnedSpec)

end Rows
end Go.Proofs.Ytedihdnkalmoiaa
