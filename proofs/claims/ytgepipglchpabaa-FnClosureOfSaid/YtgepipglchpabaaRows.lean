/-
  No cell of these rows narrows 'for every input' (looked for: loops, veiled, ifaces, maps, wideKeys, modest, calm, conditions, laid).
  DERIVED. THE GIVEN ROWS OF THIS SEAT. 12 by the template 'for every input the law returns true; each argument reads behind the call as it read before'; 0 by the template 'total and deterministic' (their statements: YtgepipglchpabaaTotals.lean).
  GIVEN WITH THE SEED: the statements are not yours to turn. If you find one false, say at which input.
  Laid BY PROGRAM, IN A SANDBOX (cutbox-rows.mjs): the forced cells as the released guide's own fill.sh prints them over the translation 251900a81df2c2a1… (all of the seat's roots in one cut). By AI agents, Wed Nov 11 2026. No macro, syntax, notation, axiom, sorry.
-/
import Derived.Test.YtgepipglchpabaaChecked
import GoSem.Claim
import GoSem.ClaimJoined
import GoSem.ClaimMapViews
import Derived.JoinedTies
import Derived.KernelRfl
namespace Go.Proofs.Ytgepipglchpabaa
/- THE CELL 'sum', in the pinned program and in every row, IS THE sha256 OF THE DUMP (.gsa) THAT YtgepipglchpabaaProg.lean LOADS. Nothing in Lean hashes anything: it is a label: what it is worth is what the hold of that sum in a sandbox is worth. -/
noncomputable def Try.pinned : Pinned := { name := "ytgepipglchpabaa", sum := "251900a81df2c2a1657c8afe1c35cfc07e44275d7c78b7bd1e46d93e4f224aa0", checked := Try.checked }
namespace Rows
def none {H : Type} : Left H := { results := [], args := [] }

/-- 'laws.FnExprHolds': WHATEVER THE INPUT: true; the input reads as it did. -/
def fnExprHoldsSpec : ChangeSpec := { name := "fnExprHolds", fn := fun _ => fun
  | [d] => { results := [.lit (.bool true)], args := [d] }
  | _ => none }
def fnExprHoldsRow : OpenClaim := { program := "ytgepipglchpabaa", sum := "251900a81df2c2a1657c8afe1c35cfc07e44275d7c78b7bd1e46d93e4f224aa0", func := "loop.example/tablehouse/laws.FnExprHolds", spec := "fnExprHolds", unfollowed := true, recurses := true, apart := false }
def FnExprHoldsSaid : Prop := fnExprHoldsRow.holds Try.pinned (OpenSpec.ofChange fnExprHoldsSpec)

/-- ITS FALSE NEIGHBOUR: 'it returns false'. Refute it at one input. -/
def fnExprHoldsWrong : ChangeSpec := { name := "fnExprHolds", fn := fun _ => fun
  | [d] => { results := [.lit (.bool false)], args := [d] }
  | _ => none }
def FnExprHoldsWrongFalsely : Prop := fnExprHoldsRow.holds Try.pinned (OpenSpec.ofChange fnExprHoldsWrong)

/-- 'laws.FnExprValue': WHATEVER THE INPUT: true; the input reads as it did. -/
def fnExprValueSpec : ChangeSpec := { name := "fnExprValue", fn := fun _ => fun
  | [d] => { results := [.lit (.bool true)], args := [d] }
  | _ => none }
def fnExprValueRow : OpenClaim := { program := "ytgepipglchpabaa", sum := "251900a81df2c2a1657c8afe1c35cfc07e44275d7c78b7bd1e46d93e4f224aa0", func := "loop.example/tablehouse/laws.FnExprValue", spec := "fnExprValue", unfollowed := true, recurses := true, apart := false }
def FnExprValueSaid : Prop := fnExprValueRow.holds Try.pinned (OpenSpec.ofChange fnExprValueSpec)

/-- ITS FALSE NEIGHBOUR: 'it returns false'. Refute it at one input. -/
def fnExprValueWrong : ChangeSpec := { name := "fnExprValue", fn := fun _ => fun
  | [d] => { results := [.lit (.bool false)], args := [d] }
  | _ => none }
def FnExprValueWrongFalsely : Prop := fnExprValueRow.holds Try.pinned (OpenSpec.ofChange fnExprValueWrong)

/-- 'laws.FnExactExprValue': WHATEVER THE INPUT: true; the input reads as it did. -/
def fnExactExprValueSpec : ChangeSpec := { name := "fnExactExprValue", fn := fun _ => fun
  | [d1, d2, d3] => { results := [.lit (.bool true)], args := [d1, d2, d3] }
  | _ => none }
def fnExactExprValueRow : OpenClaim := { program := "ytgepipglchpabaa", sum := "251900a81df2c2a1657c8afe1c35cfc07e44275d7c78b7bd1e46d93e4f224aa0", func := "loop.example/tablehouse/laws.FnExactExprValue", spec := "fnExactExprValue", unfollowed := true, recurses := true, apart := false }
def FnExactExprValueSaid : Prop := fnExactExprValueRow.holds Try.pinned (OpenSpec.ofChange fnExactExprValueSpec)

/-- ITS FALSE NEIGHBOUR: 'it returns false'. Refute it at one input. -/
def fnExactExprValueWrong : ChangeSpec := { name := "fnExactExprValue", fn := fun _ => fun
  | [d1, d2, d3] => { results := [.lit (.bool false)], args := [d1, d2, d3] }
  | _ => none }
def FnExactExprValueWrongFalsely : Prop := fnExactExprValueRow.holds Try.pinned (OpenSpec.ofChange fnExactExprValueWrong)

/-- 'laws.FnExactExprHolds': WHATEVER THE INPUT: true; the input reads as it did. -/
def fnExactExprHoldsSpec : ChangeSpec := { name := "fnExactExprHolds", fn := fun _ => fun
  | [d1, d2, d3] => { results := [.lit (.bool true)], args := [d1, d2, d3] }
  | _ => none }
def fnExactExprHoldsRow : OpenClaim := { program := "ytgepipglchpabaa", sum := "251900a81df2c2a1657c8afe1c35cfc07e44275d7c78b7bd1e46d93e4f224aa0", func := "loop.example/tablehouse/laws.FnExactExprHolds", spec := "fnExactExprHolds", unfollowed := true, recurses := true, apart := false }
def FnExactExprHoldsSaid : Prop := fnExactExprHoldsRow.holds Try.pinned (OpenSpec.ofChange fnExactExprHoldsSpec)

/-- ITS FALSE NEIGHBOUR: 'it returns false'. Refute it at one input. -/
def fnExactExprHoldsWrong : ChangeSpec := { name := "fnExactExprHolds", fn := fun _ => fun
  | [d1, d2, d3] => { results := [.lit (.bool false)], args := [d1, d2, d3] }
  | _ => none }
def FnExactExprHoldsWrongFalsely : Prop := fnExactExprHoldsRow.holds Try.pinned (OpenSpec.ofChange fnExactExprHoldsWrong)

/-- 'laws.FnExactGuardsOk': WHATEVER THE INPUT: true; the input reads as it did. -/
def fnExactGuardsOkSpec : ChangeSpec := { name := "fnExactGuardsOk", fn := fun _ => fun
  | [d1, d2] => { results := [.lit (.bool true)], args := [d1, d2] }
  | _ => none }
def fnExactGuardsOkRow : OpenClaim := { program := "ytgepipglchpabaa", sum := "251900a81df2c2a1657c8afe1c35cfc07e44275d7c78b7bd1e46d93e4f224aa0", func := "loop.example/tablehouse/laws.FnExactGuardsOk", spec := "fnExactGuardsOk", unfollowed := true, recurses := true, apart := false }
def FnExactGuardsOkSaid : Prop := fnExactGuardsOkRow.holds Try.pinned (OpenSpec.ofChange fnExactGuardsOkSpec)

/-- ITS FALSE NEIGHBOUR: 'it returns false'. Refute it at one input. -/
def fnExactGuardsOkWrong : ChangeSpec := { name := "fnExactGuardsOk", fn := fun _ => fun
  | [d1, d2] => { results := [.lit (.bool false)], args := [d1, d2] }
  | _ => none }
def FnExactGuardsOkWrongFalsely : Prop := fnExactGuardsOkRow.holds Try.pinned (OpenSpec.ofChange fnExactGuardsOkWrong)

/-- 'laws.FnExactBondOk': WHATEVER THE INPUT: true; the input reads as it did. -/
def fnExactBondOkSpec : ChangeSpec := { name := "fnExactBondOk", fn := fun _ => fun
  | [d1, d2] => { results := [.lit (.bool true)], args := [d1, d2] }
  | _ => none }
def fnExactBondOkRow : OpenClaim := { program := "ytgepipglchpabaa", sum := "251900a81df2c2a1657c8afe1c35cfc07e44275d7c78b7bd1e46d93e4f224aa0", func := "loop.example/tablehouse/laws.FnExactBondOk", spec := "fnExactBondOk", unfollowed := true, recurses := true, apart := false }
def FnExactBondOkSaid : Prop := fnExactBondOkRow.holds Try.pinned (OpenSpec.ofChange fnExactBondOkSpec)

/-- ITS FALSE NEIGHBOUR: 'it returns false'. Refute it at one input. -/
def fnExactBondOkWrong : ChangeSpec := { name := "fnExactBondOk", fn := fun _ => fun
  | [d1, d2] => { results := [.lit (.bool false)], args := [d1, d2] }
  | _ => none }
def FnExactBondOkWrongFalsely : Prop := fnExactBondOkRow.holds Try.pinned (OpenSpec.ofChange fnExactBondOkWrong)

/-- 'laws.FnPlanOk': WHATEVER THE INPUT: true; the input reads as it did. -/
def fnPlanOkSpec : ChangeSpec := { name := "fnPlanOk", fn := fun _ => fun
  | [d] => { results := [.lit (.bool true)], args := [d] }
  | _ => none }
def fnPlanOkRow : OpenClaim := { program := "ytgepipglchpabaa", sum := "251900a81df2c2a1657c8afe1c35cfc07e44275d7c78b7bd1e46d93e4f224aa0", func := "loop.example/tablehouse/laws.FnPlanOk", spec := "fnPlanOk", unfollowed := true, recurses := true, apart := false }
def FnPlanOkSaid : Prop := fnPlanOkRow.holds Try.pinned (OpenSpec.ofChange fnPlanOkSpec)

/-- ITS FALSE NEIGHBOUR: 'it returns false'. Refute it at one input. -/
def fnPlanOkWrong : ChangeSpec := { name := "fnPlanOk", fn := fun _ => fun
  | [d] => { results := [.lit (.bool false)], args := [d] }
  | _ => none }
def FnPlanOkWrongFalsely : Prop := fnPlanOkRow.holds Try.pinned (OpenSpec.ofChange fnPlanOkWrong)

/-- 'laws.FnPrunedRows': WHATEVER THE INPUT: true; the input reads as it did. -/
def fnPrunedRowsSpec : ChangeSpec := { name := "fnPrunedRows", fn := fun _ => fun
  | [d] => { results := [.lit (.bool true)], args := [d] }
  | _ => none }
def fnPrunedRowsRow : OpenClaim := { program := "ytgepipglchpabaa", sum := "251900a81df2c2a1657c8afe1c35cfc07e44275d7c78b7bd1e46d93e4f224aa0", func := "loop.example/tablehouse/laws.FnPrunedRows", spec := "fnPrunedRows", unfollowed := true, recurses := true, apart := false }
def FnPrunedRowsSaid : Prop := fnPrunedRowsRow.holds Try.pinned (OpenSpec.ofChange fnPrunedRowsSpec)

/-- ITS FALSE NEIGHBOUR: 'it returns false'. Refute it at one input. -/
def fnPrunedRowsWrong : ChangeSpec := { name := "fnPrunedRows", fn := fun _ => fun
  | [d] => { results := [.lit (.bool false)], args := [d] }
  | _ => none }
def FnPrunedRowsWrongFalsely : Prop := fnPrunedRowsRow.holds Try.pinned (OpenSpec.ofChange fnPrunedRowsWrong)

/-- 'laws.FnGroupRows': WHATEVER THE INPUT: true; the input reads as it did. -/
def fnGroupRowsSpec : ChangeSpec := { name := "fnGroupRows", fn := fun _ => fun
  | [d] => { results := [.lit (.bool true)], args := [d] }
  | _ => none }
def fnGroupRowsRow : OpenClaim := { program := "ytgepipglchpabaa", sum := "251900a81df2c2a1657c8afe1c35cfc07e44275d7c78b7bd1e46d93e4f224aa0", func := "loop.example/tablehouse/laws.FnGroupRows", spec := "fnGroupRows", unfollowed := true, recurses := true, apart := false }
def FnGroupRowsSaid : Prop := fnGroupRowsRow.holds Try.pinned (OpenSpec.ofChange fnGroupRowsSpec)

/-- ITS FALSE NEIGHBOUR: 'it returns false'. Refute it at one input. -/
def fnGroupRowsWrong : ChangeSpec := { name := "fnGroupRows", fn := fun _ => fun
  | [d] => { results := [.lit (.bool false)], args := [d] }
  | _ => none }
def FnGroupRowsWrongFalsely : Prop := fnGroupRowsRow.holds Try.pinned (OpenSpec.ofChange fnGroupRowsWrong)

/-- 'laws.FnWholeBothTurned': WHATEVER THE INPUT: true; the input reads as it did. -/
def fnWholeBothTurnedSpec : ChangeSpec := { name := "fnWholeBothTurned", fn := fun _ => fun
  | [d] => { results := [.lit (.bool true)], args := [d] }
  | _ => none }
def fnWholeBothTurnedRow : OpenClaim := { program := "ytgepipglchpabaa", sum := "251900a81df2c2a1657c8afe1c35cfc07e44275d7c78b7bd1e46d93e4f224aa0", func := "loop.example/tablehouse/laws.FnWholeBothTurned", spec := "fnWholeBothTurned", unfollowed := true, recurses := true, apart := false }
def FnWholeBothTurnedSaid : Prop := fnWholeBothTurnedRow.holds Try.pinned (OpenSpec.ofChange fnWholeBothTurnedSpec)

/-- ITS FALSE NEIGHBOUR: 'it returns false'. Refute it at one input. -/
def fnWholeBothTurnedWrong : ChangeSpec := { name := "fnWholeBothTurned", fn := fun _ => fun
  | [d] => { results := [.lit (.bool false)], args := [d] }
  | _ => none }
def FnWholeBothTurnedWrongFalsely : Prop := fnWholeBothTurnedRow.holds Try.pinned (OpenSpec.ofChange fnWholeBothTurnedWrong)

/-- 'laws.FnClosureOf': WHATEVER THE INPUT: true; the input reads as it did. -/
def fnClosureOfSpec : ChangeSpec := { name := "fnClosureOf", fn := fun _ => fun
  | [d] => { results := [.lit (.bool true)], args := [d] }
  | _ => none }
def fnClosureOfRow : OpenClaim := { program := "ytgepipglchpabaa", sum := "251900a81df2c2a1657c8afe1c35cfc07e44275d7c78b7bd1e46d93e4f224aa0", func := "loop.example/tablehouse/laws.FnClosureOf", spec := "fnClosureOf", unfollowed := true, recurses := true, apart := false }
def FnClosureOfSaid : Prop := fnClosureOfRow.holds Try.pinned (OpenSpec.ofChange fnClosureOfSpec)

/-- ITS FALSE NEIGHBOUR: 'it returns false'. Refute it at one input. -/
def fnClosureOfWrong : ChangeSpec := { name := "fnClosureOf", fn := fun _ => fun
  | [d] => { results := [.lit (.bool false)], args := [d] }
  | _ => none }
def FnClosureOfWrongFalsely : Prop := fnClosureOfRow.holds Try.pinned (OpenSpec.ofChange fnClosureOfWrong)

/-- 'laws.FnExactClosureOf': WHATEVER THE INPUT: true; the input reads as it did. -/
def fnExactClosureOfSpec : ChangeSpec := { name := "fnExactClosureOf", fn := fun _ => fun
  | [d] => { results := [.lit (.bool true)], args := [d] }
  | _ => none }
def fnExactClosureOfRow : OpenClaim := { program := "ytgepipglchpabaa", sum := "251900a81df2c2a1657c8afe1c35cfc07e44275d7c78b7bd1e46d93e4f224aa0", func := "loop.example/tablehouse/laws.FnExactClosureOf", spec := "fnExactClosureOf", unfollowed := true, recurses := true, apart := false }
def FnExactClosureOfSaid : Prop := fnExactClosureOfRow.holds Try.pinned (OpenSpec.ofChange fnExactClosureOfSpec)

/-- ITS FALSE NEIGHBOUR: 'it returns false'. Refute it at one input. -/
def fnExactClosureOfWrong : ChangeSpec := { name := "fnExactClosureOf", fn := fun _ => fun
  | [d] => { results := [.lit (.bool false)], args := [d] }
  | _ => none }
def FnExactClosureOfWrongFalsely : Prop := fnExactClosureOfRow.holds Try.pinned (OpenSpec.ofChange fnExactClosureOfWrong)

/- THE SECOND FORM. 'bulk': how many values and letters a reading holds, each counted each time it is reached (what is shared counts as often as it is met; a slice's spare places count too). A statement '..UptoSaid' is the law's where the arguments, and the package variables that the reading takes, are together of bulk at most 1048576: NARROWER than '..Said'. Prove '..Said' where nothing that the law and all that it calls make is longer than what came in: it says more and counts as full. Else prove '..UptoSaid'. A law counts once. -/
mutual
def uptoBulk {H : Type} : DataW H → Nat
  | .lit (.string bytes) => bytes.length + 1
  | .lit _ => 1
  | .nil => 1
  | .ptr d => uptoBulk d + 1
  | .slice elems spare => uptoBulkAll elems + uptoBulkAll spare + 1
  | .agg parts => uptoBulkAll parts + 1
  | .iface _ d => uptoBulk d + 1
  | .map entries => uptoBulkEntries entries + 1
  | .held _ => 1
def uptoBulkAll {H : Type} : List (DataW H) → Nat
  | [] => 0
  | d :: r => uptoBulk d + uptoBulkAll r
def uptoBulkEntries {H : Type} : List (Lit × DataW H) → Nat
  | [] => 0
  | x :: r => uptoBulkEntry x + uptoBulkEntries r
def uptoBulkEntry {H : Type} : Lit × DataW H → Nat
  | (.string bytes, d) => bytes.length + uptoBulk d + 1
  | (_, d) => uptoBulk d + 1
 end
def uptoSmall : (H : Type) → List (DataW H) → Bool := fun _ ds => decide (uptoBulkAll ds ≤ 1048576)
def OpenSpec.upto (s : _root_.Go.ChangeSpec) : _root_.Go.OpenSpec := { _root_.Go.OpenSpec.ofChange s with cond := some uptoSmall }

/-- 'laws.FnExprHolds', WHERE WHAT IT READS IS OF BULK AT MOST 1048576: true; the input reads as it did. -/
def fnExprHoldsUptoRow : OpenClaim := { program := "ytgepipglchpabaa", sum := "251900a81df2c2a1657c8afe1c35cfc07e44275d7c78b7bd1e46d93e4f224aa0", func := "loop.example/tablehouse/laws.FnExprHolds", spec := "fnExprHolds", unfollowed := true, recurses := true, apart := false, narrowed := true }
def FnExprHoldsUptoSaid : Prop := fnExprHoldsUptoRow.holds Try.pinned (OpenSpec.upto fnExprHoldsSpec)

/-- 'laws.FnExprValue', WHERE WHAT IT READS IS OF BULK AT MOST 1048576: true; the input reads as it did. -/
def fnExprValueUptoRow : OpenClaim := { program := "ytgepipglchpabaa", sum := "251900a81df2c2a1657c8afe1c35cfc07e44275d7c78b7bd1e46d93e4f224aa0", func := "loop.example/tablehouse/laws.FnExprValue", spec := "fnExprValue", unfollowed := true, recurses := true, apart := false, narrowed := true }
def FnExprValueUptoSaid : Prop := fnExprValueUptoRow.holds Try.pinned (OpenSpec.upto fnExprValueSpec)

/-- 'laws.FnExactExprValue', WHERE WHAT IT READS IS OF BULK AT MOST 1048576: true; the input reads as it did. -/
def fnExactExprValueUptoRow : OpenClaim := { program := "ytgepipglchpabaa", sum := "251900a81df2c2a1657c8afe1c35cfc07e44275d7c78b7bd1e46d93e4f224aa0", func := "loop.example/tablehouse/laws.FnExactExprValue", spec := "fnExactExprValue", unfollowed := true, recurses := true, apart := false, narrowed := true }
def FnExactExprValueUptoSaid : Prop := fnExactExprValueUptoRow.holds Try.pinned (OpenSpec.upto fnExactExprValueSpec)

/-- 'laws.FnExactExprHolds', WHERE WHAT IT READS IS OF BULK AT MOST 1048576: true; the input reads as it did. -/
def fnExactExprHoldsUptoRow : OpenClaim := { program := "ytgepipglchpabaa", sum := "251900a81df2c2a1657c8afe1c35cfc07e44275d7c78b7bd1e46d93e4f224aa0", func := "loop.example/tablehouse/laws.FnExactExprHolds", spec := "fnExactExprHolds", unfollowed := true, recurses := true, apart := false, narrowed := true }
def FnExactExprHoldsUptoSaid : Prop := fnExactExprHoldsUptoRow.holds Try.pinned (OpenSpec.upto fnExactExprHoldsSpec)

/-- 'laws.FnExactGuardsOk', WHERE WHAT IT READS IS OF BULK AT MOST 1048576: true; the input reads as it did. -/
def fnExactGuardsOkUptoRow : OpenClaim := { program := "ytgepipglchpabaa", sum := "251900a81df2c2a1657c8afe1c35cfc07e44275d7c78b7bd1e46d93e4f224aa0", func := "loop.example/tablehouse/laws.FnExactGuardsOk", spec := "fnExactGuardsOk", unfollowed := true, recurses := true, apart := false, narrowed := true }
def FnExactGuardsOkUptoSaid : Prop := fnExactGuardsOkUptoRow.holds Try.pinned (OpenSpec.upto fnExactGuardsOkSpec)

/-- 'laws.FnExactBondOk', WHERE WHAT IT READS IS OF BULK AT MOST 1048576: true; the input reads as it did. -/
def fnExactBondOkUptoRow : OpenClaim := { program := "ytgepipglchpabaa", sum := "251900a81df2c2a1657c8afe1c35cfc07e44275d7c78b7bd1e46d93e4f224aa0", func := "loop.example/tablehouse/laws.FnExactBondOk", spec := "fnExactBondOk", unfollowed := true, recurses := true, apart := false, narrowed := true }
def FnExactBondOkUptoSaid : Prop := fnExactBondOkUptoRow.holds Try.pinned (OpenSpec.upto fnExactBondOkSpec)

/-- 'laws.FnPlanOk', WHERE WHAT IT READS IS OF BULK AT MOST 1048576: true; the input reads as it did. -/
def fnPlanOkUptoRow : OpenClaim := { program := "ytgepipglchpabaa", sum := "251900a81df2c2a1657c8afe1c35cfc07e44275d7c78b7bd1e46d93e4f224aa0", func := "loop.example/tablehouse/laws.FnPlanOk", spec := "fnPlanOk", unfollowed := true, recurses := true, apart := false, narrowed := true }
def FnPlanOkUptoSaid : Prop := fnPlanOkUptoRow.holds Try.pinned (OpenSpec.upto fnPlanOkSpec)

/-- 'laws.FnPrunedRows', WHERE WHAT IT READS IS OF BULK AT MOST 1048576: true; the input reads as it did. -/
def fnPrunedRowsUptoRow : OpenClaim := { program := "ytgepipglchpabaa", sum := "251900a81df2c2a1657c8afe1c35cfc07e44275d7c78b7bd1e46d93e4f224aa0", func := "loop.example/tablehouse/laws.FnPrunedRows", spec := "fnPrunedRows", unfollowed := true, recurses := true, apart := false, narrowed := true }
def FnPrunedRowsUptoSaid : Prop := fnPrunedRowsUptoRow.holds Try.pinned (OpenSpec.upto fnPrunedRowsSpec)

/-- 'laws.FnGroupRows', WHERE WHAT IT READS IS OF BULK AT MOST 1048576: true; the input reads as it did. -/
def fnGroupRowsUptoRow : OpenClaim := { program := "ytgepipglchpabaa", sum := "251900a81df2c2a1657c8afe1c35cfc07e44275d7c78b7bd1e46d93e4f224aa0", func := "loop.example/tablehouse/laws.FnGroupRows", spec := "fnGroupRows", unfollowed := true, recurses := true, apart := false, narrowed := true }
def FnGroupRowsUptoSaid : Prop := fnGroupRowsUptoRow.holds Try.pinned (OpenSpec.upto fnGroupRowsSpec)

/-- 'laws.FnWholeBothTurned', WHERE WHAT IT READS IS OF BULK AT MOST 1048576: true; the input reads as it did. -/
def fnWholeBothTurnedUptoRow : OpenClaim := { program := "ytgepipglchpabaa", sum := "251900a81df2c2a1657c8afe1c35cfc07e44275d7c78b7bd1e46d93e4f224aa0", func := "loop.example/tablehouse/laws.FnWholeBothTurned", spec := "fnWholeBothTurned", unfollowed := true, recurses := true, apart := false, narrowed := true }
def FnWholeBothTurnedUptoSaid : Prop := fnWholeBothTurnedUptoRow.holds Try.pinned (OpenSpec.upto fnWholeBothTurnedSpec)

/-- 'laws.FnClosureOf', WHERE WHAT IT READS IS OF BULK AT MOST 1048576: true; the input reads as it did. -/
def fnClosureOfUptoRow : OpenClaim := { program := "ytgepipglchpabaa", sum := "251900a81df2c2a1657c8afe1c35cfc07e44275d7c78b7bd1e46d93e4f224aa0", func := "loop.example/tablehouse/laws.FnClosureOf", spec := "fnClosureOf", unfollowed := true, recurses := true, apart := false, narrowed := true }
def FnClosureOfUptoSaid : Prop := fnClosureOfUptoRow.holds Try.pinned (OpenSpec.upto fnClosureOfSpec)

/-- 'laws.FnExactClosureOf', WHERE WHAT IT READS IS OF BULK AT MOST 1048576: true; the input reads as it did. -/
def fnExactClosureOfUptoRow : OpenClaim := { program := "ytgepipglchpabaa", sum := "251900a81df2c2a1657c8afe1c35cfc07e44275d7c78b7bd1e46d93e4f224aa0", func := "loop.example/tablehouse/laws.FnExactClosureOf", spec := "fnExactClosureOf", unfollowed := true, recurses := true, apart := false, narrowed := true }
def FnExactClosureOfUptoSaid : Prop := fnExactClosureOfUptoRow.holds Try.pinned (OpenSpec.upto fnExactClosureOfSpec)

end Rows
end Go.Proofs.Ytgepipglchpabaa
