/-
  No cell of these rows narrows 'for every input' (looked for: loops, veiled, ifaces, maps, wideKeys, modest, calm, conditions, laid).
  DERIVED. THE GIVEN ROWS OF THIS SEAT. 10 by the template 'for every input the law returns true; each argument reads behind the call as it read before'; 0 by the template 'total and deterministic' (their statements: YtagdholenfkeaaaTotals.lean).
  GIVEN WITH THE SEED: the statements are not yours to turn. If you find one false, say at which input.
  Laid BY PROGRAM, IN A SANDBOX (cutbox-rows.mjs): the forced cells as the released guide's own fill.sh prints them over the translation e6012bc5eaeedf0a… (all of the seat's roots in one cut). By AI agents, Wed Nov 11 2026. No macro, syntax, notation, axiom, sorry.
-/
import Derived.Test.YtagdholenfkeaaaChecked
import GoSem.Claim
import GoSem.ClaimJoined
import GoSem.ClaimMapViews
import Derived.JoinedTies
import Derived.KernelRfl
namespace Go.Proofs.Ytagdholenfkeaaa
/- THE CELL 'sum', in the pinned program and in every row, IS THE sha256 OF THE DUMP (.gsa) THAT YtagdholenfkeaaaProg.lean LOADS. Nothing in Lean hashes anything: it is a label: what it is worth is what the hold of that sum in a sandbox is worth. -/
noncomputable def Try.pinned : Pinned := { name := "ytagdholenfkeaaa", sum := "e6012bc5eaeedf0a6246aaa14c5dfc60da18feb19e465f252e7f52ea32f4323b", checked := Try.checked }
namespace Rows
def none {H : Type} : Left H := { results := [], args := [] }

/-- 'zoneworkslaw12.ChainBook': WHATEVER THE INPUT: true; the input reads as it did. -/
def chainBookSpec : ChangeSpec := { name := "chainBook", fn := fun _ => fun
  | [d1, d2, d3] => { results := [.lit (.bool true)], args := [d1, d2, d3] }
  | _ => none }
def chainBookRow : OpenClaim := { program := "ytagdholenfkeaaa", sum := "e6012bc5eaeedf0a6246aaa14c5dfc60da18feb19e465f252e7f52ea32f4323b", func := "zoneworks/zoneworkslaw12.ChainBook", spec := "chainBook", unfollowed := true, recurses := true, plainKeys := false, apart := false }
def ChainBookSaid : Prop := chainBookRow.holds Try.pinned (OpenSpec.ofChange chainBookSpec)

/-- ITS FALSE NEIGHBOUR: 'it returns false'. Refute it at one input. -/
def chainBookWrong : ChangeSpec := { name := "chainBook", fn := fun _ => fun
  | [d1, d2, d3] => { results := [.lit (.bool false)], args := [d1, d2, d3] }
  | _ => none }
def ChainBookWrongFalsely : Prop := chainBookRow.holds Try.pinned (OpenSpec.ofChange chainBookWrong)

/-- 'zoneworkslaw12.ChainWho': WHATEVER THE INPUT: true; the input reads as it did. -/
def chainWhoSpec : ChangeSpec := { name := "chainWho", fn := fun _ => fun
  | [d1, d2, d3] => { results := [.lit (.bool true)], args := [d1, d2, d3] }
  | _ => none }
def chainWhoRow : OpenClaim := { program := "ytagdholenfkeaaa", sum := "e6012bc5eaeedf0a6246aaa14c5dfc60da18feb19e465f252e7f52ea32f4323b", func := "zoneworks/zoneworkslaw12.ChainWho", spec := "chainWho", unfollowed := true, recurses := true, plainKeys := false, apart := false }
def ChainWhoSaid : Prop := chainWhoRow.holds Try.pinned (OpenSpec.ofChange chainWhoSpec)

/-- ITS FALSE NEIGHBOUR: 'it returns false'. Refute it at one input. -/
def chainWhoWrong : ChangeSpec := { name := "chainWho", fn := fun _ => fun
  | [d1, d2, d3] => { results := [.lit (.bool false)], args := [d1, d2, d3] }
  | _ => none }
def ChainWhoWrongFalsely : Prop := chainWhoRow.holds Try.pinned (OpenSpec.ofChange chainWhoWrong)

/-- 'zoneworkslaw12.ChainNames': WHATEVER THE INPUT: true; the input reads as it did. -/
def chainNamesSpec : ChangeSpec := { name := "chainNames", fn := fun _ => fun
  | [] => { results := [.lit (.bool true)], args := [] }
  | _ => none }
def chainNamesRow : OpenClaim := { program := "ytagdholenfkeaaa", sum := "e6012bc5eaeedf0a6246aaa14c5dfc60da18feb19e465f252e7f52ea32f4323b", func := "zoneworks/zoneworkslaw12.ChainNames", spec := "chainNames", unfollowed := true, recurses := true, plainKeys := false, apart := false }
def ChainNamesSaid : Prop := chainNamesRow.holds Try.pinned (OpenSpec.ofChange chainNamesSpec)

/-- ITS FALSE NEIGHBOUR: 'it returns false'. Refute it at one input. -/
def chainNamesWrong : ChangeSpec := { name := "chainNames", fn := fun _ => fun
  | [] => { results := [.lit (.bool false)], args := [] }
  | _ => none }
def ChainNamesWrongFalsely : Prop := chainNamesRow.holds Try.pinned (OpenSpec.ofChange chainNamesWrong)

/-- 'zoneworkslaw12.ChainTrue': WHATEVER THE INPUT: true; the input reads as it did. -/
def chainTrueSpec : ChangeSpec := { name := "chainTrue", fn := fun _ => fun
  | [d] => { results := [.lit (.bool true)], args := [d] }
  | _ => none }
def chainTrueRow : OpenClaim := { program := "ytagdholenfkeaaa", sum := "e6012bc5eaeedf0a6246aaa14c5dfc60da18feb19e465f252e7f52ea32f4323b", func := "zoneworks/zoneworkslaw12.ChainTrue", spec := "chainTrue", unfollowed := true, recurses := true, plainKeys := false, apart := false }
def ChainTrueSaid : Prop := chainTrueRow.holds Try.pinned (OpenSpec.ofChange chainTrueSpec)

/-- ITS FALSE NEIGHBOUR: 'it returns false'. Refute it at one input. -/
def chainTrueWrong : ChangeSpec := { name := "chainTrue", fn := fun _ => fun
  | [d] => { results := [.lit (.bool false)], args := [d] }
  | _ => none }
def ChainTrueWrongFalsely : Prop := chainTrueRow.holds Try.pinned (OpenSpec.ofChange chainTrueWrong)

/-- 'zoneworkslaw12.ChainBreaks': WHATEVER THE INPUT: true; the input reads as it did. -/
def chainBreaksSpec : ChangeSpec := { name := "chainBreaks", fn := fun _ => fun
  | [d1, d2, d3] => { results := [.lit (.bool true)], args := [d1, d2, d3] }
  | _ => none }
def chainBreaksRow : OpenClaim := { program := "ytagdholenfkeaaa", sum := "e6012bc5eaeedf0a6246aaa14c5dfc60da18feb19e465f252e7f52ea32f4323b", func := "zoneworks/zoneworkslaw12.ChainBreaks", spec := "chainBreaks", unfollowed := true, recurses := true, plainKeys := false, apart := false }
def ChainBreaksSaid : Prop := chainBreaksRow.holds Try.pinned (OpenSpec.ofChange chainBreaksSpec)

/-- ITS FALSE NEIGHBOUR: 'it returns false'. Refute it at one input. -/
def chainBreaksWrong : ChangeSpec := { name := "chainBreaks", fn := fun _ => fun
  | [d1, d2, d3] => { results := [.lit (.bool false)], args := [d1, d2, d3] }
  | _ => none }
def ChainBreaksWrongFalsely : Prop := chainBreaksRow.holds Try.pinned (OpenSpec.ofChange chainBreaksWrong)

/-- 'zoneworkslaw12.ChainWhere': WHATEVER THE INPUT: true; the input reads as it did. -/
def chainWhereSpec : ChangeSpec := { name := "chainWhere", fn := fun _ => fun
  | [d1, d2, d3] => { results := [.lit (.bool true)], args := [d1, d2, d3] }
  | _ => none }
def chainWhereRow : OpenClaim := { program := "ytagdholenfkeaaa", sum := "e6012bc5eaeedf0a6246aaa14c5dfc60da18feb19e465f252e7f52ea32f4323b", func := "zoneworks/zoneworkslaw12.ChainWhere", spec := "chainWhere", unfollowed := true, recurses := true, plainKeys := false, apart := false }
def ChainWhereSaid : Prop := chainWhereRow.holds Try.pinned (OpenSpec.ofChange chainWhereSpec)

/-- ITS FALSE NEIGHBOUR: 'it returns false'. Refute it at one input. -/
def chainWhereWrong : ChangeSpec := { name := "chainWhere", fn := fun _ => fun
  | [d1, d2, d3] => { results := [.lit (.bool false)], args := [d1, d2, d3] }
  | _ => none }
def ChainWhereWrongFalsely : Prop := chainWhereRow.holds Try.pinned (OpenSpec.ofChange chainWhereWrong)

/-- 'zoneworkslaw12.ChainHands': WHATEVER THE INPUT: true; the input reads as it did. -/
def chainHandsSpec : ChangeSpec := { name := "chainHands", fn := fun _ => fun
  | [d1, d2, d3] => { results := [.lit (.bool true)], args := [d1, d2, d3] }
  | _ => none }
def chainHandsRow : OpenClaim := { program := "ytagdholenfkeaaa", sum := "e6012bc5eaeedf0a6246aaa14c5dfc60da18feb19e465f252e7f52ea32f4323b", func := "zoneworks/zoneworkslaw12.ChainHands", spec := "chainHands", unfollowed := true, recurses := true, plainKeys := false, apart := false }
def ChainHandsSaid : Prop := chainHandsRow.holds Try.pinned (OpenSpec.ofChange chainHandsSpec)

/-- ITS FALSE NEIGHBOUR: 'it returns false'. Refute it at one input. -/
def chainHandsWrong : ChangeSpec := { name := "chainHands", fn := fun _ => fun
  | [d1, d2, d3] => { results := [.lit (.bool false)], args := [d1, d2, d3] }
  | _ => none }
def ChainHandsWrongFalsely : Prop := chainHandsRow.holds Try.pinned (OpenSpec.ofChange chainHandsWrong)

/-- 'zoneworkslaw12.ChainDrop': WHATEVER THE INPUT: true; the input reads as it did. -/
def chainDropSpec : ChangeSpec := { name := "chainDrop", fn := fun _ => fun
  | [d1, d2] => { results := [.lit (.bool true)], args := [d1, d2] }
  | _ => none }
def chainDropRow : OpenClaim := { program := "ytagdholenfkeaaa", sum := "e6012bc5eaeedf0a6246aaa14c5dfc60da18feb19e465f252e7f52ea32f4323b", func := "zoneworks/zoneworkslaw12.ChainDrop", spec := "chainDrop", unfollowed := true, recurses := true, plainKeys := false, apart := false }
def ChainDropSaid : Prop := chainDropRow.holds Try.pinned (OpenSpec.ofChange chainDropSpec)

/-- ITS FALSE NEIGHBOUR: 'it returns false'. Refute it at one input. -/
def chainDropWrong : ChangeSpec := { name := "chainDrop", fn := fun _ => fun
  | [d1, d2] => { results := [.lit (.bool false)], args := [d1, d2] }
  | _ => none }
def ChainDropWrongFalsely : Prop := chainDropRow.holds Try.pinned (OpenSpec.ofChange chainDropWrong)

/-- 'zoneworkslaw12.ChainMore': WHATEVER THE INPUT: true; the input reads as it did. -/
def chainMoreSpec : ChangeSpec := { name := "chainMore", fn := fun _ => fun
  | [d1, d2, d3, d4] => { results := [.lit (.bool true)], args := [d1, d2, d3, d4] }
  | _ => none }
def chainMoreRow : OpenClaim := { program := "ytagdholenfkeaaa", sum := "e6012bc5eaeedf0a6246aaa14c5dfc60da18feb19e465f252e7f52ea32f4323b", func := "zoneworks/zoneworkslaw12.ChainMore", spec := "chainMore", unfollowed := true, recurses := true, plainKeys := false, apart := false }
def ChainMoreSaid : Prop := chainMoreRow.holds Try.pinned (OpenSpec.ofChange chainMoreSpec)

/-- ITS FALSE NEIGHBOUR: 'it returns false'. Refute it at one input. -/
def chainMoreWrong : ChangeSpec := { name := "chainMore", fn := fun _ => fun
  | [d1, d2, d3, d4] => { results := [.lit (.bool false)], args := [d1, d2, d3, d4] }
  | _ => none }
def ChainMoreWrongFalsely : Prop := chainMoreRow.holds Try.pinned (OpenSpec.ofChange chainMoreWrong)

/-- 'zoneworkslaw12.ChainTurned': WHATEVER THE INPUT: true; the input reads as it did. -/
def chainTurnedSpec : ChangeSpec := { name := "chainTurned", fn := fun _ => fun
  | [d1, d2, d3] => { results := [.lit (.bool true)], args := [d1, d2, d3] }
  | _ => none }
def chainTurnedRow : OpenClaim := { program := "ytagdholenfkeaaa", sum := "e6012bc5eaeedf0a6246aaa14c5dfc60da18feb19e465f252e7f52ea32f4323b", func := "zoneworks/zoneworkslaw12.ChainTurned", spec := "chainTurned", unfollowed := true, recurses := true, plainKeys := false, apart := false }
def ChainTurnedSaid : Prop := chainTurnedRow.holds Try.pinned (OpenSpec.ofChange chainTurnedSpec)

/-- ITS FALSE NEIGHBOUR: 'it returns false'. Refute it at one input. -/
def chainTurnedWrong : ChangeSpec := { name := "chainTurned", fn := fun _ => fun
  | [d1, d2, d3] => { results := [.lit (.bool false)], args := [d1, d2, d3] }
  | _ => none }
def ChainTurnedWrongFalsely : Prop := chainTurnedRow.holds Try.pinned (OpenSpec.ofChange chainTurnedWrong)

/- THE SECOND FORM. 'bulk': how many values and letters a reading holds, each counted each time it is reached (what is shared counts as often as it is met; a slice's spare places count too). A statement '..UptoSaid' is the law's where the arguments, and the package variables that the reading takes, are together of bulk at most 1048576: NARROWER than '..Said'. Prove '..Said' where nothing that the law and all that it calls make is longer than what came in: it says more and counts as full. Else prove '..UptoSaid'. A law counts once. -/
mutual
def uptoBulk {H : Type} : DataW H → Nat
  | .lit (.string bytes) => bytes.length + 1
  | .lit _ => 1
  | .nil => 1
  | .ptr d => uptoBulk d + 1
  | .slice elems spare => uptoBulkAll elems + uptoBulkAll spare + 1
  | .agg parts => uptoBulkAll parts + 1
  | .iface _ d => uptoBulk d + 1
  | .map entries => uptoBulkEntries entries + 1
  | .held _ => 1
def uptoBulkAll {H : Type} : List (DataW H) → Nat
  | [] => 0
  | d :: r => uptoBulk d + uptoBulkAll r
def uptoBulkEntries {H : Type} : List (Lit × DataW H) → Nat
  | [] => 0
  | x :: r => uptoBulkEntry x + uptoBulkEntries r
def uptoBulkEntry {H : Type} : Lit × DataW H → Nat
  | (.string bytes, d) => bytes.length + uptoBulk d + 1
  | (_, d) => uptoBulk d + 1
 end
def uptoSmall : (H : Type) → List (DataW H) → Bool := fun _ ds => decide (uptoBulkAll ds ≤ 1048576)
def OpenSpec.upto (s : _root_.Go.ChangeSpec) : _root_.Go.OpenSpec := { _root_.Go.OpenSpec.ofChange s with cond := some uptoSmall }

/-- 'zoneworkslaw12.ChainBook', WHERE WHAT IT READS IS OF BULK AT MOST 1048576: true; the input reads as it did. -/
def chainBookUptoRow : OpenClaim := { program := "ytagdholenfkeaaa", sum := "e6012bc5eaeedf0a6246aaa14c5dfc60da18feb19e465f252e7f52ea32f4323b", func := "zoneworks/zoneworkslaw12.ChainBook", spec := "chainBook", unfollowed := true, recurses := true, plainKeys := false, apart := false, narrowed := true }
def ChainBookUptoSaid : Prop := chainBookUptoRow.holds Try.pinned (OpenSpec.upto chainBookSpec)

/-- 'zoneworkslaw12.ChainWho', WHERE WHAT IT READS IS OF BULK AT MOST 1048576: true; the input reads as it did. -/
def chainWhoUptoRow : OpenClaim := { program := "ytagdholenfkeaaa", sum := "e6012bc5eaeedf0a6246aaa14c5dfc60da18feb19e465f252e7f52ea32f4323b", func := "zoneworks/zoneworkslaw12.ChainWho", spec := "chainWho", unfollowed := true, recurses := true, plainKeys := false, apart := false, narrowed := true }
def ChainWhoUptoSaid : Prop := chainWhoUptoRow.holds Try.pinned (OpenSpec.upto chainWhoSpec)

/-- 'zoneworkslaw12.ChainNames', WHERE WHAT IT READS IS OF BULK AT MOST 1048576: true; the input reads as it did. -/
def chainNamesUptoRow : OpenClaim := { program := "ytagdholenfkeaaa", sum := "e6012bc5eaeedf0a6246aaa14c5dfc60da18feb19e465f252e7f52ea32f4323b", func := "zoneworks/zoneworkslaw12.ChainNames", spec := "chainNames", unfollowed := true, recurses := true, plainKeys := false, apart := false, narrowed := true }
def ChainNamesUptoSaid : Prop := chainNamesUptoRow.holds Try.pinned (OpenSpec.upto chainNamesSpec)

/-- 'zoneworkslaw12.ChainTrue', WHERE WHAT IT READS IS OF BULK AT MOST 1048576: true; the input reads as it did. -/
def chainTrueUptoRow : OpenClaim := { program := "ytagdholenfkeaaa", sum := "e6012bc5eaeedf0a6246aaa14c5dfc60da18feb19e465f252e7f52ea32f4323b", func := "zoneworks/zoneworkslaw12.ChainTrue", spec := "chainTrue", unfollowed := true, recurses := true, plainKeys := false, apart := false, narrowed := true }
def ChainTrueUptoSaid : Prop := chainTrueUptoRow.holds Try.pinned (OpenSpec.upto chainTrueSpec)

/-- 'zoneworkslaw12.ChainBreaks', WHERE WHAT IT READS IS OF BULK AT MOST 1048576: true; the input reads as it did. -/
def chainBreaksUptoRow : OpenClaim := { program := "ytagdholenfkeaaa", sum := "e6012bc5eaeedf0a6246aaa14c5dfc60da18feb19e465f252e7f52ea32f4323b", func := "zoneworks/zoneworkslaw12.ChainBreaks", spec := "chainBreaks", unfollowed := true, recurses := true, plainKeys := false, apart := false, narrowed := true }
def ChainBreaksUptoSaid : Prop := chainBreaksUptoRow.holds Try.pinned (OpenSpec.upto chainBreaksSpec)

/-- 'zoneworkslaw12.ChainWhere', WHERE WHAT IT READS IS OF BULK AT MOST 1048576: true; the input reads as it did. -/
def chainWhereUptoRow : OpenClaim := { program := "ytagdholenfkeaaa", sum := "e6012bc5eaeedf0a6246aaa14c5dfc60da18feb19e465f252e7f52ea32f4323b", func := "zoneworks/zoneworkslaw12.ChainWhere", spec := "chainWhere", unfollowed := true, recurses := true, plainKeys := false, apart := false, narrowed := true }
def ChainWhereUptoSaid : Prop := chainWhereUptoRow.holds Try.pinned (OpenSpec.upto chainWhereSpec)

/-- 'zoneworkslaw12.ChainHands', WHERE WHAT IT READS IS OF BULK AT MOST 1048576: true; the input reads as it did. -/
def chainHandsUptoRow : OpenClaim := { program := "ytagdholenfkeaaa", sum := "e6012bc5eaeedf0a6246aaa14c5dfc60da18feb19e465f252e7f52ea32f4323b", func := "zoneworks/zoneworkslaw12.ChainHands", spec := "chainHands", unfollowed := true, recurses := true, plainKeys := false, apart := false, narrowed := true }
def ChainHandsUptoSaid : Prop := chainHandsUptoRow.holds Try.pinned (OpenSpec.upto chainHandsSpec)

/-- 'zoneworkslaw12.ChainDrop', WHERE WHAT IT READS IS OF BULK AT MOST 1048576: true; the input reads as it did. -/
def chainDropUptoRow : OpenClaim := { program := "ytagdholenfkeaaa", sum := "e6012bc5eaeedf0a6246aaa14c5dfc60da18feb19e465f252e7f52ea32f4323b", func := "zoneworks/zoneworkslaw12.ChainDrop", spec := "chainDrop", unfollowed := true, recurses := true, plainKeys := false, apart := false, narrowed := true }
def ChainDropUptoSaid : Prop := chainDropUptoRow.holds Try.pinned (OpenSpec.upto chainDropSpec)

/-- 'zoneworkslaw12.ChainMore', WHERE WHAT IT READS IS OF BULK AT MOST 1048576: true; the input reads as it did. -/
def chainMoreUptoRow : OpenClaim := { program := "ytagdholenfkeaaa", sum := "e6012bc5eaeedf0a6246aaa14c5dfc60da18feb19e465f252e7f52ea32f4323b", func := "zoneworks/zoneworkslaw12.ChainMore", spec := "chainMore", unfollowed := true, recurses := true, plainKeys := false, apart := false, narrowed := true }
def ChainMoreUptoSaid : Prop := chainMoreUptoRow.holds Try.pinned (OpenSpec.upto chainMoreSpec)

/-- 'zoneworkslaw12.ChainTurned', WHERE WHAT IT READS IS OF BULK AT MOST 1048576: true; the input reads as it did. -/
def chainTurnedUptoRow : OpenClaim := { program := "ytagdholenfkeaaa", sum := "e6012bc5eaeedf0a6246aaa14c5dfc60da18feb19e465f252e7f52ea32f4323b", func := "zoneworks/zoneworkslaw12.ChainTurned", spec := "chainTurned", unfollowed := true, recurses := true, plainKeys := false, apart := false, narrowed := true }
def ChainTurnedUptoSaid : Prop := chainTurnedUptoRow.holds Try.pinned (OpenSpec.upto chainTurnedSpec)

end Rows
end Go.Proofs.Ytagdholenfkeaaa
