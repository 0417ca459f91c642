/-
  No cell of these rows narrows 'for every input' (looked for: loops, veiled, ifaces, maps, wideKeys, modest, calm, conditions, laid).
  DERIVED. THE GIVEN ROWS OF THIS SEAT. 4 by the template 'for every input the law returns true; each argument reads behind the call as it read before'; 0 by the template 'total and deterministic' (their statements: YtlkggobbofdchaaTotals.lean).
  GIVEN WITH THE SEED: the statements are not yours to turn. If you find one false, say at which input.
  Laid BY PROGRAM, IN A SANDBOX (cutbox-rows.mjs): the forced cells as the released guide's own fill.sh prints them over the translation 6f08b60b995fd975… (all of the seat's roots in one cut). By AI agents, Wed Nov 11 2026. No macro, syntax, notation, axiom, sorry.
-/
import Derived.Test.YtlkggobbofdchaaChecked
import GoSem.Claim
import GoSem.ClaimJoined
import GoSem.ClaimMapViews
import Derived.JoinedTies
import Derived.KernelRfl
namespace Go.Proofs.Ytlkggobbofdchaa
/- THE CELL 'sum', in the pinned program and in every row, IS THE sha256 OF THE DUMP (.gsa) THAT YtlkggobbofdchaaProg.lean LOADS. Nothing in Lean hashes anything: it is a label: what it is worth is what the hold of that sum in a sandbox is worth. -/
noncomputable def Try.pinned : Pinned := { name := "ytlkggobbofdchaa", sum := "6f08b60b995fd9751725a1a2e0097aaacbf0be8183776cef48ab72a8dccaa158", checked := Try.checked }
namespace Rows
def none {H : Type} : Left H := { results := [], args := [] }

/-- 'laws.FnWholeBothTurned': WHATEVER THE INPUT: true; the input reads as it did. -/
def fnWholeBothTurnedSpec : ChangeSpec := { name := "fnWholeBothTurned", fn := fun _ => fun
  | [d] => { results := [.lit (.bool true)], args := [d] }
  | _ => none }
def fnWholeBothTurnedRow : OpenClaim := { program := "ytlkggobbofdchaa", sum := "6f08b60b995fd9751725a1a2e0097aaacbf0be8183776cef48ab72a8dccaa158", func := "loop.example/tablehouse/laws.FnWholeBothTurned", spec := "fnWholeBothTurned", unfollowed := true, recurses := true, apart := false }
def FnWholeBothTurnedSaid : Prop := fnWholeBothTurnedRow.holds Try.pinned (OpenSpec.ofChange fnWholeBothTurnedSpec)

/-- ITS FALSE NEIGHBOUR: 'it returns false'. Refute it at one input. -/
def fnWholeBothTurnedWrong : ChangeSpec := { name := "fnWholeBothTurned", fn := fun _ => fun
  | [d] => { results := [.lit (.bool false)], args := [d] }
  | _ => none }
def FnWholeBothTurnedWrongFalsely : Prop := fnWholeBothTurnedRow.holds Try.pinned (OpenSpec.ofChange fnWholeBothTurnedWrong)

/-- 'laws.FnWholeJoinBoth': WHATEVER THE INPUT: true; the input reads as it did. -/
def fnWholeJoinBothSpec : ChangeSpec := { name := "fnWholeJoinBoth", fn := fun _ => fun
  | [d] => { results := [.lit (.bool true)], args := [d] }
  | _ => none }
def fnWholeJoinBothRow : OpenClaim := { program := "ytlkggobbofdchaa", sum := "6f08b60b995fd9751725a1a2e0097aaacbf0be8183776cef48ab72a8dccaa158", func := "loop.example/tablehouse/laws.FnWholeJoinBoth", spec := "fnWholeJoinBoth", unfollowed := true, recurses := true, apart := false }
def FnWholeJoinBothSaid : Prop := fnWholeJoinBothRow.holds Try.pinned (OpenSpec.ofChange fnWholeJoinBothSpec)

/-- ITS FALSE NEIGHBOUR: 'it returns false'. Refute it at one input. -/
def fnWholeJoinBothWrong : ChangeSpec := { name := "fnWholeJoinBoth", fn := fun _ => fun
  | [d] => { results := [.lit (.bool false)], args := [d] }
  | _ => none }
def FnWholeJoinBothWrongFalsely : Prop := fnWholeJoinBothRow.holds Try.pinned (OpenSpec.ofChange fnWholeJoinBothWrong)

/-- 'laws.FnWholeJoinTurned': WHATEVER THE INPUT: true; the input reads as it did. -/
def fnWholeJoinTurnedSpec : ChangeSpec := { name := "fnWholeJoinTurned", fn := fun _ => fun
  | [d] => { results := [.lit (.bool true)], args := [d] }
  | _ => none }
def fnWholeJoinTurnedRow : OpenClaim := { program := "ytlkggobbofdchaa", sum := "6f08b60b995fd9751725a1a2e0097aaacbf0be8183776cef48ab72a8dccaa158", func := "loop.example/tablehouse/laws.FnWholeJoinTurned", spec := "fnWholeJoinTurned", unfollowed := true, recurses := true, apart := false }
def FnWholeJoinTurnedSaid : Prop := fnWholeJoinTurnedRow.holds Try.pinned (OpenSpec.ofChange fnWholeJoinTurnedSpec)

/-- ITS FALSE NEIGHBOUR: 'it returns false'. Refute it at one input. -/
def fnWholeJoinTurnedWrong : ChangeSpec := { name := "fnWholeJoinTurned", fn := fun _ => fun
  | [d] => { results := [.lit (.bool false)], args := [d] }
  | _ => none }
def FnWholeJoinTurnedWrongFalsely : Prop := fnWholeJoinTurnedRow.holds Try.pinned (OpenSpec.ofChange fnWholeJoinTurnedWrong)

/-- 'laws.FnWholeLeft': WHATEVER THE INPUT: true; the input reads as it did. -/
def fnWholeLeftSpec : ChangeSpec := { name := "fnWholeLeft", fn := fun _ => fun
  | [d] => { results := [.lit (.bool true)], args := [d] }
  | _ => none }
def fnWholeLeftRow : OpenClaim := { program := "ytlkggobbofdchaa", sum := "6f08b60b995fd9751725a1a2e0097aaacbf0be8183776cef48ab72a8dccaa158", func := "loop.example/tablehouse/laws.FnWholeLeft", spec := "fnWholeLeft", unfollowed := true, recurses := true, apart := false }
def FnWholeLeftSaid : Prop := fnWholeLeftRow.holds Try.pinned (OpenSpec.ofChange fnWholeLeftSpec)

/-- ITS FALSE NEIGHBOUR: 'it returns false'. Refute it at one input. -/
def fnWholeLeftWrong : ChangeSpec := { name := "fnWholeLeft", fn := fun _ => fun
  | [d] => { results := [.lit (.bool false)], args := [d] }
  | _ => none }
def FnWholeLeftWrongFalsely : Prop := fnWholeLeftRow.holds Try.pinned (OpenSpec.ofChange fnWholeLeftWrong)

/- THE SECOND FORM. 'bulk': how many values and letters a reading holds, each counted each time it is reached (what is shared counts as often as it is met; a slice's spare places count too). A statement '..UptoSaid' is the law's where the arguments, and the package variables that the reading takes, are together of bulk at most 1048576: NARROWER than '..Said'. Prove '..Said' where nothing that the law and all that it calls make is longer than what came in: it says more and counts as full. Else prove '..UptoSaid'. A law counts once. -/
mutual
def uptoBulk {H : Type} : DataW H → Nat
  | .lit (.string bytes) => bytes.length + 1
  | .lit _ => 1
  | .nil => 1
  | .ptr d => uptoBulk d + 1
  | .slice elems spare => uptoBulkAll elems + uptoBulkAll spare + 1
  | .agg parts => uptoBulkAll parts + 1
  | .iface _ d => uptoBulk d + 1
  | .map entries => uptoBulkEntries entries + 1
  | .held _ => 1
def uptoBulkAll {H : Type} : List (DataW H) → Nat
  | [] => 0
  | d :: r => uptoBulk d + uptoBulkAll r
def uptoBulkEntries {H : Type} : List (Lit × DataW H) → Nat
  | [] => 0
  | x :: r => uptoBulkEntry x + uptoBulkEntries r
def uptoBulkEntry {H : Type} : Lit × DataW H → Nat
  | (.string bytes, d) => bytes.length + uptoBulk d + 1
  | (_, d) => uptoBulk d + 1
 end
def uptoSmall : (H : Type) → List (DataW H) → Bool := fun _ ds => decide (uptoBulkAll ds ≤ 1048576)
def OpenSpec.upto (s : _root_.Go.ChangeSpec) : _root_.Go.OpenSpec := { _root_.Go.OpenSpec.ofChange s with cond := some uptoSmall }

/-- 'laws.FnWholeBothTurned', WHERE WHAT IT READS IS OF BULK AT MOST 1048576: true; the input reads as it did. -/
def fnWholeBothTurnedUptoRow : OpenClaim := { program := "ytlkggobbofdchaa", sum := "6f08b60b995fd9751725a1a2e0097aaacbf0be8183776cef48ab72a8dccaa158", func := "loop.example/tablehouse/laws.FnWholeBothTurned", spec := "fnWholeBothTurned", unfollowed := true, recurses := true, apart := false, narrowed := true }
def FnWholeBothTurnedUptoSaid : Prop := fnWholeBothTurnedUptoRow.holds Try.pinned (OpenSpec.upto fnWholeBothTurnedSpec)

/-- 'laws.FnWholeJoinBoth', WHERE WHAT IT READS IS OF BULK AT MOST 1048576: true; the input reads as it did. -/
def fnWholeJoinBothUptoRow : OpenClaim := { program := "ytlkggobbofdchaa", sum := "6f08b60b995fd9751725a1a2e0097aaacbf0be8183776cef48ab72a8dccaa158", func := "loop.example/tablehouse/laws.FnWholeJoinBoth", spec := "fnWholeJoinBoth", unfollowed := true, recurses := true, apart := false, narrowed := true }
def FnWholeJoinBothUptoSaid : Prop := fnWholeJoinBothUptoRow.holds Try.pinned (OpenSpec.upto fnWholeJoinBothSpec)

/-- 'laws.FnWholeJoinTurned', WHERE WHAT IT READS IS OF BULK AT MOST 1048576: true; the input reads as it did. -/
def fnWholeJoinTurnedUptoRow : OpenClaim := { program := "ytlkggobbofdchaa", sum := "6f08b60b995fd9751725a1a2e0097aaacbf0be8183776cef48ab72a8dccaa158", func := "loop.example/tablehouse/laws.FnWholeJoinTurned", spec := "fnWholeJoinTurned", unfollowed := true, recurses := true, apart := false, narrowed := true }
def FnWholeJoinTurnedUptoSaid : Prop := fnWholeJoinTurnedUptoRow.holds Try.pinned (OpenSpec.upto fnWholeJoinTurnedSpec)

/-- 'laws.FnWholeLeft', WHERE WHAT IT READS IS OF BULK AT MOST 1048576: true; the input reads as it did. -/
def fnWholeLeftUptoRow : OpenClaim := { program := "ytlkggobbofdchaa", sum := "6f08b60b995fd9751725a1a2e0097aaacbf0be8183776cef48ab72a8dccaa158", func := "loop.example/tablehouse/laws.FnWholeLeft", spec := "fnWholeLeft", unfollowed := true, recurses := true, apart := false, narrowed := true }
def FnWholeLeftUptoSaid : Prop := fnWholeLeftUptoRow.holds Try.pinned (OpenSpec.upto fnWholeLeftSpec)

end Rows
end Go.Proofs.Ytlkggobbofdchaa
