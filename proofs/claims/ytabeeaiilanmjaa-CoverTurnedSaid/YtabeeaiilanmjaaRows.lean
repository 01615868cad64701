/-
  No cell of these rows narrows 'for every input' (looked for: loops, veiled, ifaces, maps, wideKeys, modest, calm, conditions, laid).
  DERIVED. THE GIVEN ROWS OF THIS SEAT. 9 by the template 'for every input the law returns true; each argument reads behind the call as it read before'; 0 by the template 'total and deterministic' (their statements: YtabeeaiilanmjaaTotals.lean).
  GIVEN WITH THE SEED: the statements are not yours to turn. If you find one false, say at which input.
  Laid BY PROGRAM, IN A SANDBOX (cutbox-rows.mjs): the forced cells as the released guide's own fill.sh prints them over the translation a14c091e1943961e… (all of the seat's roots in one cut). By AI agents, Wed Nov 11 2026. No macro, syntax, notation, axiom, sorry.
-/
import Derived.Test.YtabeeaiilanmjaaChecked
import GoSem.Claim
import GoSem.ClaimJoined
import GoSem.ClaimMapViews
import Derived.JoinedTies
import Derived.KernelRfl
namespace Go.Proofs.Ytabeeaiilanmjaa
/- THE CELL 'sum', in the pinned program and in every row, IS THE sha256 OF THE DUMP (.gsa) THAT YtabeeaiilanmjaaProg.lean LOADS. Nothing in Lean hashes anything: it is a label: what it is worth is what the hold of that sum in a sandbox is worth. -/
noncomputable def Try.pinned : Pinned := { name := "ytabeeaiilanmjaa", sum := "a14c091e1943961ec6ab54348ce9d322e4e48b6144859ce14839cfdfde1a79e5", checked := Try.checked }
namespace Rows
def none {H : Type} : Left H := { results := [], args := [] }

/-- 'zoneworkslaw10.CoverReads': WHATEVER THE INPUT: true; the input reads as it did. -/
def coverReadsSpec : ChangeSpec := { name := "coverReads", fn := fun _ => fun
  | [d1, d2, d3, d4] => { results := [.lit (.bool true)], args := [d1, d2, d3, d4] }
  | _ => none }
def coverReadsRow : OpenClaim := { program := "ytabeeaiilanmjaa", sum := "a14c091e1943961ec6ab54348ce9d322e4e48b6144859ce14839cfdfde1a79e5", func := "zoneworks/zoneworkslaw10.CoverReads", spec := "coverReads", unfollowed := true, recurses := true, plainKeys := false, apart := false }
def CoverReadsSaid : Prop := coverReadsRow.holds Try.pinned (OpenSpec.ofChange coverReadsSpec)

/-- ITS FALSE NEIGHBOUR: 'it returns false'. Refute it at one input. -/
def coverReadsWrong : ChangeSpec := { name := "coverReads", fn := fun _ => fun
  | [d1, d2, d3, d4] => { results := [.lit (.bool false)], args := [d1, d2, d3, d4] }
  | _ => none }
def CoverReadsWrongFalsely : Prop := coverReadsRow.holds Try.pinned (OpenSpec.ofChange coverReadsWrong)

/-- 'zoneworkslaw10.CoverLists': WHATEVER THE INPUT: true; the input reads as it did. -/
def coverListsSpec : ChangeSpec := { name := "coverLists", fn := fun _ => fun
  | [d] => { results := [.lit (.bool true)], args := [d] }
  | _ => none }
def coverListsRow : OpenClaim := { program := "ytabeeaiilanmjaa", sum := "a14c091e1943961ec6ab54348ce9d322e4e48b6144859ce14839cfdfde1a79e5", func := "zoneworks/zoneworkslaw10.CoverLists", spec := "coverLists", unfollowed := true, recurses := true, plainKeys := false, apart := false }
def CoverListsSaid : Prop := coverListsRow.holds Try.pinned (OpenSpec.ofChange coverListsSpec)

/-- ITS FALSE NEIGHBOUR: 'it returns false'. Refute it at one input. -/
def coverListsWrong : ChangeSpec := { name := "coverLists", fn := fun _ => fun
  | [d] => { results := [.lit (.bool false)], args := [d] }
  | _ => none }
def CoverListsWrongFalsely : Prop := coverListsRow.holds Try.pinned (OpenSpec.ofChange coverListsWrong)

/-- 'zoneworkslaw10.CoverFinds': WHATEVER THE INPUT: true; the input reads as it did. -/
def coverFindsSpec : ChangeSpec := { name := "coverFinds", fn := fun _ => fun
  | [d1, d2, d3, d4] => { results := [.lit (.bool true)], args := [d1, d2, d3, d4] }
  | _ => none }
def coverFindsRow : OpenClaim := { program := "ytabeeaiilanmjaa", sum := "a14c091e1943961ec6ab54348ce9d322e4e48b6144859ce14839cfdfde1a79e5", func := "zoneworks/zoneworkslaw10.CoverFinds", spec := "coverFinds", unfollowed := true, recurses := true, plainKeys := false, apart := false }
def CoverFindsSaid : Prop := coverFindsRow.holds Try.pinned (OpenSpec.ofChange coverFindsSpec)

/-- ITS FALSE NEIGHBOUR: 'it returns false'. Refute it at one input. -/
def coverFindsWrong : ChangeSpec := { name := "coverFinds", fn := fun _ => fun
  | [d1, d2, d3, d4] => { results := [.lit (.bool false)], args := [d1, d2, d3, d4] }
  | _ => none }
def CoverFindsWrongFalsely : Prop := coverFindsRow.holds Try.pinned (OpenSpec.ofChange coverFindsWrong)

/-- 'zoneworkslaw10.CoverMissing': WHATEVER THE INPUT: true; the input reads as it did. -/
def coverMissingSpec : ChangeSpec := { name := "coverMissing", fn := fun _ => fun
  | [d1, d2] => { results := [.lit (.bool true)], args := [d1, d2] }
  | _ => none }
def coverMissingRow : OpenClaim := { program := "ytabeeaiilanmjaa", sum := "a14c091e1943961ec6ab54348ce9d322e4e48b6144859ce14839cfdfde1a79e5", func := "zoneworks/zoneworkslaw10.CoverMissing", spec := "coverMissing", unfollowed := true, recurses := true, plainKeys := false, apart := false }
def CoverMissingSaid : Prop := coverMissingRow.holds Try.pinned (OpenSpec.ofChange coverMissingSpec)

/-- ITS FALSE NEIGHBOUR: 'it returns false'. Refute it at one input. -/
def coverMissingWrong : ChangeSpec := { name := "coverMissing", fn := fun _ => fun
  | [d1, d2] => { results := [.lit (.bool false)], args := [d1, d2] }
  | _ => none }
def CoverMissingWrongFalsely : Prop := coverMissingRow.holds Try.pinned (OpenSpec.ofChange coverMissingWrong)

/-- 'zoneworkslaw10.CoverShortest': WHATEVER THE INPUT: true; the input reads as it did. -/
def coverShortestSpec : ChangeSpec := { name := "coverShortest", fn := fun _ => fun
  | [d1, d2] => { results := [.lit (.bool true)], args := [d1, d2] }
  | _ => none }
def coverShortestRow : OpenClaim := { program := "ytabeeaiilanmjaa", sum := "a14c091e1943961ec6ab54348ce9d322e4e48b6144859ce14839cfdfde1a79e5", func := "zoneworks/zoneworkslaw10.CoverShortest", spec := "coverShortest", unfollowed := true, recurses := true, plainKeys := false, apart := false }
def CoverShortestSaid : Prop := coverShortestRow.holds Try.pinned (OpenSpec.ofChange coverShortestSpec)

/-- ITS FALSE NEIGHBOUR: 'it returns false'. Refute it at one input. -/
def coverShortestWrong : ChangeSpec := { name := "coverShortest", fn := fun _ => fun
  | [d1, d2] => { results := [.lit (.bool false)], args := [d1, d2] }
  | _ => none }
def CoverShortestWrongFalsely : Prop := coverShortestRow.holds Try.pinned (OpenSpec.ofChange coverShortestWrong)

/-- 'zoneworkslaw10.CoverNeeded': WHATEVER THE INPUT: true; the input reads as it did. -/
def coverNeededSpec : ChangeSpec := { name := "coverNeeded", fn := fun _ => fun
  | [d] => { results := [.lit (.bool true)], args := [d] }
  | _ => none }
def coverNeededRow : OpenClaim := { program := "ytabeeaiilanmjaa", sum := "a14c091e1943961ec6ab54348ce9d322e4e48b6144859ce14839cfdfde1a79e5", func := "zoneworks/zoneworkslaw10.CoverNeeded", spec := "coverNeeded", unfollowed := true, recurses := true, plainKeys := false, apart := false }
def CoverNeededSaid : Prop := coverNeededRow.holds Try.pinned (OpenSpec.ofChange coverNeededSpec)

/-- ITS FALSE NEIGHBOUR: 'it returns false'. Refute it at one input. -/
def coverNeededWrong : ChangeSpec := { name := "coverNeeded", fn := fun _ => fun
  | [d] => { results := [.lit (.bool false)], args := [d] }
  | _ => none }
def CoverNeededWrongFalsely : Prop := coverNeededRow.holds Try.pinned (OpenSpec.ofChange coverNeededWrong)

/-- 'zoneworkslaw10.CoverApart': WHATEVER THE INPUT: true; the input reads as it did. -/
def coverApartSpec : ChangeSpec := { name := "coverApart", fn := fun _ => fun
  | [d1, d2] => { results := [.lit (.bool true)], args := [d1, d2] }
  | _ => none }
def coverApartRow : OpenClaim := { program := "ytabeeaiilanmjaa", sum := "a14c091e1943961ec6ab54348ce9d322e4e48b6144859ce14839cfdfde1a79e5", func := "zoneworks/zoneworkslaw10.CoverApart", spec := "coverApart", unfollowed := true, recurses := true, plainKeys := false, apart := false }
def CoverApartSaid : Prop := coverApartRow.holds Try.pinned (OpenSpec.ofChange coverApartSpec)

/-- ITS FALSE NEIGHBOUR: 'it returns false'. Refute it at one input. -/
def coverApartWrong : ChangeSpec := { name := "coverApart", fn := fun _ => fun
  | [d1, d2] => { results := [.lit (.bool false)], args := [d1, d2] }
  | _ => none }
def CoverApartWrongFalsely : Prop := coverApartRow.holds Try.pinned (OpenSpec.ofChange coverApartWrong)

/-- 'zoneworkslaw10.CoverMore': WHATEVER THE INPUT: true; the input reads as it did. -/
def coverMoreSpec : ChangeSpec := { name := "coverMore", fn := fun _ => fun
  | [d1, d2, d3] => { results := [.lit (.bool true)], args := [d1, d2, d3] }
  | _ => none }
def coverMoreRow : OpenClaim := { program := "ytabeeaiilanmjaa", sum := "a14c091e1943961ec6ab54348ce9d322e4e48b6144859ce14839cfdfde1a79e5", func := "zoneworks/zoneworkslaw10.CoverMore", spec := "coverMore", unfollowed := true, recurses := true, plainKeys := false, apart := false }
def CoverMoreSaid : Prop := coverMoreRow.holds Try.pinned (OpenSpec.ofChange coverMoreSpec)

/-- ITS FALSE NEIGHBOUR: 'it returns false'. Refute it at one input. -/
def coverMoreWrong : ChangeSpec := { name := "coverMore", fn := fun _ => fun
  | [d1, d2, d3] => { results := [.lit (.bool false)], args := [d1, d2, d3] }
  | _ => none }
def CoverMoreWrongFalsely : Prop := coverMoreRow.holds Try.pinned (OpenSpec.ofChange coverMoreWrong)

/-- 'zoneworkslaw10.CoverTurned': WHATEVER THE INPUT: true; the input reads as it did. -/
def coverTurnedSpec : ChangeSpec := { name := "coverTurned", fn := fun _ => fun
  | [d1, d2] => { results := [.lit (.bool true)], args := [d1, d2] }
  | _ => none }
def coverTurnedRow : OpenClaim := { program := "ytabeeaiilanmjaa", sum := "a14c091e1943961ec6ab54348ce9d322e4e48b6144859ce14839cfdfde1a79e5", func := "zoneworks/zoneworkslaw10.CoverTurned", spec := "coverTurned", unfollowed := true, recurses := true, plainKeys := false, apart := false }
def CoverTurnedSaid : Prop := coverTurnedRow.holds Try.pinned (OpenSpec.ofChange coverTurnedSpec)

/-- ITS FALSE NEIGHBOUR: 'it returns false'. Refute it at one input. -/
def coverTurnedWrong : ChangeSpec := { name := "coverTurned", fn := fun _ => fun
  | [d1, d2] => { results := [.lit (.bool false)], args := [d1, d2] }
  | _ => none }
def CoverTurnedWrongFalsely : Prop := coverTurnedRow.holds Try.pinned (OpenSpec.ofChange coverTurnedWrong)

/- THE SECOND FORM. 'bulk': how many values and letters a reading holds, each counted each time it is reached (what is shared counts as often as it is met; a slice's spare places count too). A statement '..UptoSaid' is the law's where the arguments, and the package variables that the reading takes, are together of bulk at most 1048576: NARROWER than '..Said'. Prove '..Said' where nothing that the law and all that it calls make is longer than what came in: it says more and counts as full. Else prove '..UptoSaid'. A law counts once. -/
mutual
def uptoBulk {H : Type} : DataW H → Nat
  | .lit (.string bytes) => bytes.length + 1
  | .lit _ => 1
  | .nil => 1
  | .ptr d => uptoBulk d + 1
  | .slice elems spare => uptoBulkAll elems + uptoBulkAll spare + 1
  | .agg parts => uptoBulkAll parts + 1
  | .iface _ d => uptoBulk d + 1
  | .map entries => uptoBulkEntries entries + 1
  | .held _ => 1
def uptoBulkAll {H : Type} : List (DataW H) → Nat
  | [] => 0
  | d :: r => uptoBulk d + uptoBulkAll r
def uptoBulkEntries {H : Type} : List (Lit × DataW H) → Nat
  | [] => 0
  | x :: r => uptoBulkEntry x + uptoBulkEntries r
def uptoBulkEntry {H : Type} : Lit × DataW H → Nat
  | (.string bytes, d) => bytes.length + uptoBulk d + 1
  | (_, d) => uptoBulk d + 1
 end
def uptoSmall : (H : Type) → List (DataW H) → Bool := fun _ ds => decide (uptoBulkAll ds ≤ 1048576)
def OpenSpec.upto (s : _root_.Go.ChangeSpec) : _root_.Go.OpenSpec := { _root_.Go.OpenSpec.ofChange s with cond := some uptoSmall }

/-- 'zoneworkslaw10.CoverReads', WHERE WHAT IT READS IS OF BULK AT MOST 1048576: true; the input reads as it did. -/
def coverReadsUptoRow : OpenClaim := { program := "ytabeeaiilanmjaa", sum := "a14c091e1943961ec6ab54348ce9d322e4e48b6144859ce14839cfdfde1a79e5", func := "zoneworks/zoneworkslaw10.CoverReads", spec := "coverReads", unfollowed := true, recurses := true, plainKeys := false, apart := false, narrowed := true }
def CoverReadsUptoSaid : Prop := coverReadsUptoRow.holds Try.pinned (OpenSpec.upto coverReadsSpec)

/-- 'zoneworkslaw10.CoverLists', WHERE WHAT IT READS IS OF BULK AT MOST 1048576: true; the input reads as it did. -/
def coverListsUptoRow : OpenClaim := { program := "ytabeeaiilanmjaa", sum := "a14c091e1943961ec6ab54348ce9d322e4e48b6144859ce14839cfdfde1a79e5", func := "zoneworks/zoneworkslaw10.CoverLists", spec := "coverLists", unfollowed := true, recurses := true, plainKeys := false, apart := false, narrowed := true }
def CoverListsUptoSaid : Prop := coverListsUptoRow.holds Try.pinned (OpenSpec.upto coverListsSpec)

/-- 'zoneworkslaw10.CoverFinds', WHERE WHAT IT READS IS OF BULK AT MOST 1048576: true; the input reads as it did. -/
def coverFindsUptoRow : OpenClaim := { program := "ytabeeaiilanmjaa", sum := "a14c091e1943961ec6ab54348ce9d322e4e48b6144859ce14839cfdfde1a79e5", func := "zoneworks/zoneworkslaw10.CoverFinds", spec := "coverFinds", unfollowed := true, recurses := true, plainKeys := false, apart := false, narrowed := true }
def CoverFindsUptoSaid : Prop := coverFindsUptoRow.holds Try.pinned (OpenSpec.upto coverFindsSpec)

/-- 'zoneworkslaw10.CoverMissing', WHERE WHAT IT READS IS OF BULK AT MOST 1048576: true; the input reads as it did. -/
def coverMissingUptoRow : OpenClaim := { program := "ytabeeaiilanmjaa", sum := "a14c091e1943961ec6ab54348ce9d322e4e48b6144859ce14839cfdfde1a79e5", func := "zoneworks/zoneworkslaw10.CoverMissing", spec := "coverMissing", unfollowed := true, recurses := true, plainKeys := false, apart := false, narrowed := true }
def CoverMissingUptoSaid : Prop := coverMissingUptoRow.holds Try.pinned (OpenSpec.upto coverMissingSpec)

/-- 'zoneworkslaw10.CoverShortest', WHERE WHAT IT READS IS OF BULK AT MOST 1048576: true; the input reads as it did. -/
def coverShortestUptoRow : OpenClaim := { program := "ytabeeaiilanmjaa", sum := "a14c091e1943961ec6ab54348ce9d322e4e48b6144859ce14839cfdfde1a79e5", func := "zoneworks/zoneworkslaw10.CoverShortest", spec := "coverShortest", unfollowed := true, recurses := true, plainKeys := false, apart := false, narrowed := true }
def CoverShortestUptoSaid : Prop := coverShortestUptoRow.holds Try.pinned (OpenSpec.upto coverShortestSpec)

/-- 'zoneworkslaw10.CoverNeeded', WHERE WHAT IT READS IS OF BULK AT MOST 1048576: true; the input reads as it did. -/
def coverNeededUptoRow : OpenClaim := { program := "ytabeeaiilanmjaa", sum := "a14c091e1943961ec6ab54348ce9d322e4e48b6144859ce14839cfdfde1a79e5", func := "zoneworks/zoneworkslaw10.CoverNeeded", spec := "coverNeeded", unfollowed := true, recurses := true, plainKeys := false, apart := false, narrowed := true }
def CoverNeededUptoSaid : Prop := coverNeededUptoRow.holds Try.pinned (OpenSpec.upto coverNeededSpec)

/-- 'zoneworkslaw10.CoverApart', WHERE WHAT IT READS IS OF BULK AT MOST 1048576: true; the input reads as it did. -/
def coverApartUptoRow : OpenClaim := { program := "ytabeeaiilanmjaa", sum := "a14c091e1943961ec6ab54348ce9d322e4e48b6144859ce14839cfdfde1a79e5", func := "zoneworks/zoneworkslaw10.CoverApart", spec := "coverApart", unfollowed := true, recurses := true, plainKeys := false, apart := false, narrowed := true }
def CoverApartUptoSaid : Prop := coverApartUptoRow.holds Try.pinned (OpenSpec.upto coverApartSpec)

/-- 'zoneworkslaw10.CoverMore', WHERE WHAT IT READS IS OF BULK AT MOST 1048576: true; the input reads as it did. -/
def coverMoreUptoRow : OpenClaim := { program := "ytabeeaiilanmjaa", sum := "a14c091e1943961ec6ab54348ce9d322e4e48b6144859ce14839cfdfde1a79e5", func := "zoneworks/zoneworkslaw10.CoverMore", spec := "coverMore", unfollowed := true, recurses := true, plainKeys := false, apart := false, narrowed := true }
def CoverMoreUptoSaid : Prop := coverMoreUptoRow.holds Try.pinned (OpenSpec.upto coverMoreSpec)

/-- 'zoneworkslaw10.CoverTurned', WHERE WHAT IT READS IS OF BULK AT MOST 1048576: true; the input reads as it did. -/
def coverTurnedUptoRow : OpenClaim := { program := "ytabeeaiilanmjaa", sum := "a14c091e1943961ec6ab54348ce9d322e4e48b6144859ce14839cfdfde1a79e5", func := "zoneworks/zoneworkslaw10.CoverTurned", spec := "coverTurned", unfollowed := true, recurses := true, plainKeys := false, apart := false, narrowed := true }
def CoverTurnedUptoSaid : Prop := coverTurnedUptoRow.holds Try.pinned (OpenSpec.upto coverTurnedSpec)

end Rows
end Go.Proofs.Ytabeeaiilanmjaa
