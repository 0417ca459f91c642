/-
  No cell of these rows narrows 'for every input' (looked for: loops, veiled, ifaces, maps, wideKeys, modest, calm, conditions, laid).
  DERIVED. THE GIVEN ROWS OF THIS SEAT. 9 by the template 'for every input the law returns true; each argument reads behind the call as it read before'; 0 by the template 'total and deterministic' (their statements: YtogiaehagciojaaTotals.lean).
  GIVEN WITH THE SEED: the statements are not yours to turn. If you find one false, say at which input.
  Laid BY PROGRAM, IN A SANDBOX (cutbox-rows.mjs): the forced cells as the released guide's own fill.sh prints them over the translation 41befa9bc18b3dff… (all of the seat's roots in one cut). By AI agents, Wed Nov 11 2026. No macro, syntax, notation, axiom, sorry.
-/
import Derived.Test.YtogiaehagciojaaChecked
import GoSem.Claim
import GoSem.ClaimJoined
import GoSem.ClaimMapViews
import Derived.JoinedTies
import Derived.KernelRfl
namespace Go.Proofs.Ytogiaehagciojaa
/- THE CELL 'sum', in the pinned program and in every row, IS THE sha256 OF THE DUMP (.gsa) THAT YtogiaehagciojaaProg.lean LOADS. Nothing in Lean hashes anything: it is a label: what it is worth is what the hold of that sum in a sandbox is worth. -/
noncomputable def Try.pinned : Pinned := { name := "ytogiaehagciojaa", sum := "41befa9bc18b3dff9f1e47b8df532158fdd4a1d518b163822c78088409ac0a0f", checked := Try.checked }
namespace Rows
def none {H : Type} : Left H := { results := [], args := [] }

/-- 'laws.FnExactTablesAfter': WHATEVER THE INPUT: true; the input reads as it did. -/
def fnExactTablesAfterSpec : ChangeSpec := { name := "fnExactTablesAfter", fn := fun _ => fun
  | [d1, d2] => { results := [.lit (.bool true)], args := [d1, d2] }
  | _ => none }
def fnExactTablesAfterRow : OpenClaim := { program := "ytogiaehagciojaa", sum := "41befa9bc18b3dff9f1e47b8df532158fdd4a1d518b163822c78088409ac0a0f", func := "loop.example/tablehouse/laws.FnExactTablesAfter", spec := "fnExactTablesAfter", unfollowed := true, recurses := true, apart := false }
def FnExactTablesAfterSaid : Prop := fnExactTablesAfterRow.holds Try.pinned (OpenSpec.ofChange fnExactTablesAfterSpec)

/-- ITS FALSE NEIGHBOUR: 'it returns false'. Refute it at one input. -/
def fnExactTablesAfterWrong : ChangeSpec := { name := "fnExactTablesAfter", fn := fun _ => fun
  | [d1, d2] => { results := [.lit (.bool false)], args := [d1, d2] }
  | _ => none }
def FnExactTablesAfterWrongFalsely : Prop := fnExactTablesAfterRow.holds Try.pinned (OpenSpec.ofChange fnExactTablesAfterWrong)

/-- 'laws.FnExactGroupRows': WHATEVER THE INPUT: true; the input reads as it did. -/
def fnExactGroupRowsSpec : ChangeSpec := { name := "fnExactGroupRows", fn := fun _ => fun
  | [d1, d2, d3, d4, d5] => { results := [.lit (.bool true)], args := [d1, d2, d3, d4, d5] }
  | _ => none }
def fnExactGroupRowsRow : OpenClaim := { program := "ytogiaehagciojaa", sum := "41befa9bc18b3dff9f1e47b8df532158fdd4a1d518b163822c78088409ac0a0f", func := "loop.example/tablehouse/laws.FnExactGroupRows", spec := "fnExactGroupRows", unfollowed := true, recurses := true, apart := false }
def FnExactGroupRowsSaid : Prop := fnExactGroupRowsRow.holds Try.pinned (OpenSpec.ofChange fnExactGroupRowsSpec)

/-- ITS FALSE NEIGHBOUR: 'it returns false'. Refute it at one input. -/
def fnExactGroupRowsWrong : ChangeSpec := { name := "fnExactGroupRows", fn := fun _ => fun
  | [d1, d2, d3, d4, d5] => { results := [.lit (.bool false)], args := [d1, d2, d3, d4, d5] }
  | _ => none }
def FnExactGroupRowsWrongFalsely : Prop := fnExactGroupRowsRow.holds Try.pinned (OpenSpec.ofChange fnExactGroupRowsWrong)

/-- 'laws.FnExactDeltaRows': WHATEVER THE INPUT: true; the input reads as it did. -/
def fnExactDeltaRowsSpec : ChangeSpec := { name := "fnExactDeltaRows", fn := fun _ => fun
  | [d1, d2] => { results := [.lit (.bool true)], args := [d1, d2] }
  | _ => none }
def fnExactDeltaRowsRow : OpenClaim := { program := "ytogiaehagciojaa", sum := "41befa9bc18b3dff9f1e47b8df532158fdd4a1d518b163822c78088409ac0a0f", func := "loop.example/tablehouse/laws.FnExactDeltaRows", spec := "fnExactDeltaRows", inPlace := ["slices.overlaps[[]loop.example/tablehouse/impl.Value]"], unfollowed := true, recurses := true, apart := false }
def FnExactDeltaRowsSaid : Prop := fnExactDeltaRowsRow.holds Try.pinned (OpenSpec.ofChange fnExactDeltaRowsSpec)

/-- ITS FALSE NEIGHBOUR: 'it returns false'. Refute it at one input. -/
def fnExactDeltaRowsWrong : ChangeSpec := { name := "fnExactDeltaRows", fn := fun _ => fun
  | [d1, d2] => { results := [.lit (.bool false)], args := [d1, d2] }
  | _ => none }
def FnExactDeltaRowsWrongFalsely : Prop := fnExactDeltaRowsRow.holds Try.pinned (OpenSpec.ofChange fnExactDeltaRowsWrong)

/-- 'laws.FnExactDeltaOf': WHATEVER THE INPUT: true; the input reads as it did. -/
def fnExactDeltaOfSpec : ChangeSpec := { name := "fnExactDeltaOf", fn := fun _ => fun
  | [d1, d2] => { results := [.lit (.bool true)], args := [d1, d2] }
  | _ => none }
def fnExactDeltaOfRow : OpenClaim := { program := "ytogiaehagciojaa", sum := "41befa9bc18b3dff9f1e47b8df532158fdd4a1d518b163822c78088409ac0a0f", func := "loop.example/tablehouse/laws.FnExactDeltaOf", spec := "fnExactDeltaOf", unfollowed := true, recurses := true, apart := false }
def FnExactDeltaOfSaid : Prop := fnExactDeltaOfRow.holds Try.pinned (OpenSpec.ofChange fnExactDeltaOfSpec)

/-- ITS FALSE NEIGHBOUR: 'it returns false'. Refute it at one input. -/
def fnExactDeltaOfWrong : ChangeSpec := { name := "fnExactDeltaOf", fn := fun _ => fun
  | [d1, d2] => { results := [.lit (.bool false)], args := [d1, d2] }
  | _ => none }
def FnExactDeltaOfWrongFalsely : Prop := fnExactDeltaOfRow.holds Try.pinned (OpenSpec.ofChange fnExactDeltaOfWrong)

/-- 'laws.FnExactPrunedRows': WHATEVER THE INPUT: true; the input reads as it did. -/
def fnExactPrunedRowsSpec : ChangeSpec := { name := "fnExactPrunedRows", fn := fun _ => fun
  | [d1, d2, d3, d4, d5, d6] => { results := [.lit (.bool true)], args := [d1, d2, d3, d4, d5, d6] }
  | _ => none }
def fnExactPrunedRowsRow : OpenClaim := { program := "ytogiaehagciojaa", sum := "41befa9bc18b3dff9f1e47b8df532158fdd4a1d518b163822c78088409ac0a0f", func := "loop.example/tablehouse/laws.FnExactPrunedRows", spec := "fnExactPrunedRows", unfollowed := true, recurses := true, apart := false }
def FnExactPrunedRowsSaid : Prop := fnExactPrunedRowsRow.holds Try.pinned (OpenSpec.ofChange fnExactPrunedRowsSpec)

/-- ITS FALSE NEIGHBOUR: 'it returns false'. Refute it at one input. -/
def fnExactPrunedRowsWrong : ChangeSpec := { name := "fnExactPrunedRows", fn := fun _ => fun
  | [d1, d2, d3, d4, d5, d6] => { results := [.lit (.bool false)], args := [d1, d2, d3, d4, d5, d6] }
  | _ => none }
def FnExactPrunedRowsWrongFalsely : Prop := fnExactPrunedRowsRow.holds Try.pinned (OpenSpec.ofChange fnExactPrunedRowsWrong)

/-- 'laws.FnExactLockWaits': WHATEVER THE INPUT: true; the input reads as it did. -/
def fnExactLockWaitsSpec : ChangeSpec := { name := "fnExactLockWaits", fn := fun _ => fun
  | [d1, d2] => { results := [.lit (.bool true)], args := [d1, d2] }
  | _ => none }
def fnExactLockWaitsRow : OpenClaim := { program := "ytogiaehagciojaa", sum := "41befa9bc18b3dff9f1e47b8df532158fdd4a1d518b163822c78088409ac0a0f", func := "loop.example/tablehouse/laws.FnExactLockWaits", spec := "fnExactLockWaits", unfollowed := true, recurses := true, apart := false }
def FnExactLockWaitsSaid : Prop := fnExactLockWaitsRow.holds Try.pinned (OpenSpec.ofChange fnExactLockWaitsSpec)

/-- ITS FALSE NEIGHBOUR: 'it returns false'. Refute it at one input. -/
def fnExactLockWaitsWrong : ChangeSpec := { name := "fnExactLockWaits", fn := fun _ => fun
  | [d1, d2] => { results := [.lit (.bool false)], args := [d1, d2] }
  | _ => none }
def FnExactLockWaitsWrongFalsely : Prop := fnExactLockWaitsRow.holds Try.pinned (OpenSpec.ofChange fnExactLockWaitsWrong)

/-- 'laws.FnWholePruned': WHATEVER THE INPUT: true; the input reads as it did. -/
def fnWholePrunedSpec : ChangeSpec := { name := "fnWholePruned", fn := fun _ => fun
  | [d] => { results := [.lit (.bool true)], args := [d] }
  | _ => none }
def fnWholePrunedRow : OpenClaim := { program := "ytogiaehagciojaa", sum := "41befa9bc18b3dff9f1e47b8df532158fdd4a1d518b163822c78088409ac0a0f", func := "loop.example/tablehouse/laws.FnWholePruned", spec := "fnWholePruned", unfollowed := true, recurses := true, apart := false }
def FnWholePrunedSaid : Prop := fnWholePrunedRow.holds Try.pinned (OpenSpec.ofChange fnWholePrunedSpec)

/-- ITS FALSE NEIGHBOUR: 'it returns false'. Refute it at one input. -/
def fnWholePrunedWrong : ChangeSpec := { name := "fnWholePruned", fn := fun _ => fun
  | [d] => { results := [.lit (.bool false)], args := [d] }
  | _ => none }
def FnWholePrunedWrongFalsely : Prop := fnWholePrunedRow.holds Try.pinned (OpenSpec.ofChange fnWholePrunedWrong)

/-- 'laws.FnHouseOk': WHATEVER THE INPUT: true; the input reads as it did. -/
def fnHouseOkSpec : ChangeSpec := { name := "fnHouseOk", fn := fun _ => fun
  | [d] => { results := [.lit (.bool true)], args := [d] }
  | _ => none }
def fnHouseOkRow : OpenClaim := { program := "ytogiaehagciojaa", sum := "41befa9bc18b3dff9f1e47b8df532158fdd4a1d518b163822c78088409ac0a0f", func := "loop.example/tablehouse/laws.FnHouseOk", spec := "fnHouseOk", unfollowed := true, recurses := true, apart := false }
def FnHouseOkSaid : Prop := fnHouseOkRow.holds Try.pinned (OpenSpec.ofChange fnHouseOkSpec)

/-- ITS FALSE NEIGHBOUR: 'it returns false'. Refute it at one input. -/
def fnHouseOkWrong : ChangeSpec := { name := "fnHouseOk", fn := fun _ => fun
  | [d] => { results := [.lit (.bool false)], args := [d] }
  | _ => none }
def FnHouseOkWrongFalsely : Prop := fnHouseOkRow.holds Try.pinned (OpenSpec.ofChange fnHouseOkWrong)

/-- 'laws.FnLockWaits': WHATEVER THE INPUT: true; the input reads as it did. -/
def fnLockWaitsSpec : ChangeSpec := { name := "fnLockWaits", fn := fun _ => fun
  | [d] => { results := [.lit (.bool true)], args := [d] }
  | _ => none }
def fnLockWaitsRow : OpenClaim := { program := "ytogiaehagciojaa", sum := "41befa9bc18b3dff9f1e47b8df532158fdd4a1d518b163822c78088409ac0a0f", func := "loop.example/tablehouse/laws.FnLockWaits", spec := "fnLockWaits", unfollowed := true, recurses := true, apart := false }
def FnLockWaitsSaid : Prop := fnLockWaitsRow.holds Try.pinned (OpenSpec.ofChange fnLockWaitsSpec)

/-- ITS FALSE NEIGHBOUR: 'it returns false'. Refute it at one input. -/
def fnLockWaitsWrong : ChangeSpec := { name := "fnLockWaits", fn := fun _ => fun
  | [d] => { results := [.lit (.bool false)], args := [d] }
  | _ => none }
def FnLockWaitsWrongFalsely : Prop := fnLockWaitsRow.holds Try.pinned (OpenSpec.ofChange fnLockWaitsWrong)

/- THE SECOND FORM. 'bulk': how many values and letters a reading holds, each counted each time it is reached (what is shared counts as often as it is met; a slice's spare places count too). A statement '..UptoSaid' is the law's where the arguments, and the package variables that the reading takes, are together of bulk at most 1048576: NARROWER than '..Said'. Prove '..Said' where nothing that the law and all that it calls make is longer than what came in: it says more and counts as full. Else prove '..UptoSaid'. A law counts once. -/
mutual
def uptoBulk {H : Type} : DataW H → Nat
  | .lit (.string bytes) => bytes.length + 1
  | .lit _ => 1
  | .nil => 1
  | .ptr d => uptoBulk d + 1
  | .slice elems spare => uptoBulkAll elems + uptoBulkAll spare + 1
  | .agg parts => uptoBulkAll parts + 1
  | .iface _ d => uptoBulk d + 1
  | .map entries => uptoBulkEntries entries + 1
  | .held _ => 1
def uptoBulkAll {H : Type} : List (DataW H) → Nat
  | [] => 0
  | d :: r => uptoBulk d + uptoBulkAll r
def uptoBulkEntries {H : Type} : List (Lit × DataW H) → Nat
  | [] => 0
  | x :: r => uptoBulkEntry x + uptoBulkEntries r
def uptoBulkEntry {H : Type} : Lit × DataW H → Nat
  | (.string bytes, d) => bytes.length + uptoBulk d + 1
  | (_, d) => uptoBulk d + 1
 end
def uptoSmall : (H : Type) → List (DataW H) → Bool := fun _ ds => decide (uptoBulkAll ds ≤ 1048576)
def OpenSpec.upto (s : _root_.Go.ChangeSpec) : _root_.Go.OpenSpec := { _root_.Go.OpenSpec.ofChange s with cond := some uptoSmall }

/-- 'laws.FnExactTablesAfter', WHERE WHAT IT READS IS OF BULK AT MOST 1048576: true; the input reads as it did. -/
def fnExactTablesAfterUptoRow : OpenClaim := { program := "ytogiaehagciojaa", sum := "41befa9bc18b3dff9f1e47b8df532158fdd4a1d518b163822c78088409ac0a0f", func := "loop.example/tablehouse/laws.FnExactTablesAfter", spec := "fnExactTablesAfter", unfollowed := true, recurses := true, apart := false, narrowed := true }
def FnExactTablesAfterUptoSaid : Prop := fnExactTablesAfterUptoRow.holds Try.pinned (OpenSpec.upto fnExactTablesAfterSpec)

/-- 'laws.FnExactGroupRows', WHERE WHAT IT READS IS OF BULK AT MOST 1048576: true; the input reads as it did. -/
def fnExactGroupRowsUptoRow : OpenClaim := { program := "ytogiaehagciojaa", sum := "41befa9bc18b3dff9f1e47b8df532158fdd4a1d518b163822c78088409ac0a0f", func := "loop.example/tablehouse/laws.FnExactGroupRows", spec := "fnExactGroupRows", unfollowed := true, recurses := true, apart := false, narrowed := true }
def FnExactGroupRowsUptoSaid : Prop := fnExactGroupRowsUptoRow.holds Try.pinned (OpenSpec.upto fnExactGroupRowsSpec)

/-- 'laws.FnExactDeltaRows', WHERE WHAT IT READS IS OF BULK AT MOST 1048576: true; the input reads as it did. -/
def fnExactDeltaRowsUptoRow : OpenClaim := { program := "ytogiaehagciojaa", sum := "41befa9bc18b3dff9f1e47b8df532158fdd4a1d518b163822c78088409ac0a0f", func := "loop.example/tablehouse/laws.FnExactDeltaRows", spec := "fnExactDeltaRows", inPlace := ["slices.overlaps[[]loop.example/tablehouse/impl.Value]"], unfollowed := true, recurses := true, apart := false, narrowed := true }
def FnExactDeltaRowsUptoSaid : Prop := fnExactDeltaRowsUptoRow.holds Try.pinned (OpenSpec.upto fnExactDeltaRowsSpec)

/-- 'laws.FnExactDeltaOf', WHERE WHAT IT READS IS OF BULK AT MOST 1048576: true; the input reads as it did. -/
def fnExactDeltaOfUptoRow : OpenClaim := { program := "ytogiaehagciojaa", sum := "41befa9bc18b3dff9f1e47b8df532158fdd4a1d518b163822c78088409ac0a0f", func := "loop.example/tablehouse/laws.FnExactDeltaOf", spec := "fnExactDeltaOf", unfollowed := true, recurses := true, apart := false, narrowed := true }
def FnExactDeltaOfUptoSaid : Prop := fnExactDeltaOfUptoRow.holds Try.pinned (OpenSpec.upto fnExactDeltaOfSpec)

/-- 'laws.FnExactPrunedRows', WHERE WHAT IT READS IS OF BULK AT MOST 1048576: true; the input reads as it did. -/
def fnExactPrunedRowsUptoRow : OpenClaim := { program := "ytogiaehagciojaa", sum := "41befa9bc18b3dff9f1e47b8df532158fdd4a1d518b163822c78088409ac0a0f", func := "loop.example/tablehouse/laws.FnExactPrunedRows", spec := "fnExactPrunedRows", unfollowed := true, recurses := true, apart := false, narrowed := true }
def FnExactPrunedRowsUptoSaid : Prop := fnExactPrunedRowsUptoRow.holds Try.pinned (OpenSpec.upto fnExactPrunedRowsSpec)

/-- 'laws.FnExactLockWaits', WHERE WHAT IT READS IS OF BULK AT MOST 1048576: true; the input reads as it did. -/
def fnExactLockWaitsUptoRow : OpenClaim := { program := "ytogiaehagciojaa", sum := "41befa9bc18b3dff9f1e47b8df532158fdd4a1d518b163822c78088409ac0a0f", func := "loop.example/tablehouse/laws.FnExactLockWaits", spec := "fnExactLockWaits", unfollowed := true, recurses := true, apart := false, narrowed := true }
def FnExactLockWaitsUptoSaid : Prop := fnExactLockWaitsUptoRow.holds Try.pinned (OpenSpec.upto fnExactLockWaitsSpec)

/-- 'laws.FnWholePruned', WHERE WHAT IT READS IS OF BULK AT MOST 1048576: true; the input reads as it did. -/
def fnWholePrunedUptoRow : OpenClaim := { program := "ytogiaehagciojaa", sum := "41befa9bc18b3dff9f1e47b8df532158fdd4a1d518b163822c78088409ac0a0f", func := "loop.example/tablehouse/laws.FnWholePruned", spec := "fnWholePruned", unfollowed := true, recurses := true, apart := false, narrowed := true }
def FnWholePrunedUptoSaid : Prop := fnWholePrunedUptoRow.holds Try.pinned (OpenSpec.upto fnWholePrunedSpec)

/-- 'laws.FnHouseOk', WHERE WHAT IT READS IS OF BULK AT MOST 1048576: true; the input reads as it did. -/
def fnHouseOkUptoRow : OpenClaim := { program := "ytogiaehagciojaa", sum := "41befa9bc18b3dff9f1e47b8df532158fdd4a1d518b163822c78088409ac0a0f", func := "loop.example/tablehouse/laws.FnHouseOk", spec := "fnHouseOk", unfollowed := true, recurses := true, apart := false, narrowed := true }
def FnHouseOkUptoSaid : Prop := fnHouseOkUptoRow.holds Try.pinned (OpenSpec.upto fnHouseOkSpec)

/-- 'laws.FnLockWaits', WHERE WHAT IT READS IS OF BULK AT MOST 1048576: true; the input reads as it did. -/
def fnLockWaitsUptoRow : OpenClaim := { program := "ytogiaehagciojaa", sum := "41befa9bc18b3dff9f1e47b8df532158fdd4a1d518b163822c78088409ac0a0f", func := "loop.example/tablehouse/laws.FnLockWaits", spec := "fnLockWaits", unfollowed := true, recurses := true, apart := false, narrowed := true }
def FnLockWaitsUptoSaid : Prop := fnLockWaitsUptoRow.holds Try.pinned (OpenSpec.upto fnLockWaitsSpec)

end Rows
end Go.Proofs.Ytogiaehagciojaa
