/-
  No cell of these rows narrows 'for every input' (looked for: loops, veiled, ifaces, maps, wideKeys, modest, calm, conditions, laid).
  DERIVED. THE GIVEN ROWS OF THIS SEAT. 12 by the template 'for every input the law returns true; each argument reads behind the call as it read before'; 0 by the template 'total and deterministic' (their statements: YtjmeoggmdnlicaaTotals.lean).
  GIVEN WITH THE SEED: the statements are not yours to turn. If you find one false, say at which input.
  Laid BY PROGRAM, IN A SANDBOX (cutbox-rows.mjs): the forced cells as the released guide's own fill.sh prints them over the translation 3b7141b07dac202d… (all of the seat's roots in one cut). By AI agents, Wed Nov 11 2026. No macro, syntax, notation, axiom, sorry.
-/
import Derived.Test.YtjmeoggmdnlicaaChecked
import GoSem.Claim
import GoSem.ClaimJoined
import GoSem.ClaimMapViews
import Derived.JoinedTies
import Derived.KernelRfl
namespace Go.Proofs.Ytjmeoggmdnlicaa
/- THE CELL 'sum', in the pinned program and in every row, IS THE sha256 OF THE DUMP (.gsa) THAT YtjmeoggmdnlicaaProg.lean LOADS. Nothing in Lean hashes anything: it is a label: what it is worth is what the hold of that sum in a sandbox is worth. -/
noncomputable def Try.pinned : Pinned := { name := "ytjmeoggmdnlicaa", sum := "3b7141b07dac202d5ec0fe7e6ca790665300d20e380f511f7f33d0eb07daa4dd", checked := Try.checked }
namespace Rows
def none {H : Type} : Left H := { results := [], args := [] }

/-- 'laws.FnExactTablesAfter': WHATEVER THE INPUT: true; the input reads as it did. -/
def fnExactTablesAfterSpec : ChangeSpec := { name := "fnExactTablesAfter", fn := fun _ => fun
  | [d1, d2] => { results := [.lit (.bool true)], args := [d1, d2] }
  | _ => none }
def fnExactTablesAfterRow : OpenClaim := { program := "ytjmeoggmdnlicaa", sum := "3b7141b07dac202d5ec0fe7e6ca790665300d20e380f511f7f33d0eb07daa4dd", func := "loop.example/tablehouse/laws.FnExactTablesAfter", spec := "fnExactTablesAfter", unfollowed := true, recurses := true, apart := false }
def FnExactTablesAfterSaid : Prop := fnExactTablesAfterRow.holds Try.pinned (OpenSpec.ofChange fnExactTablesAfterSpec)

/-- ITS FALSE NEIGHBOUR: 'it returns false'. Refute it at one input. -/
def fnExactTablesAfterWrong : ChangeSpec := { name := "fnExactTablesAfter", fn := fun _ => fun
  | [d1, d2] => { results := [.lit (.bool false)], args := [d1, d2] }
  | _ => none }
def FnExactTablesAfterWrongFalsely : Prop := fnExactTablesAfterRow.holds Try.pinned (OpenSpec.ofChange fnExactTablesAfterWrong)

/-- 'laws.FnExactReadBy': WHATEVER THE INPUT: true; the input reads as it did. -/
def fnExactReadBySpec : ChangeSpec := { name := "fnExactReadBy", fn := fun _ => fun
  | [d1, d2, d3] => { results := [.lit (.bool true)], args := [d1, d2, d3] }
  | _ => none }
def fnExactReadByRow : OpenClaim := { program := "ytjmeoggmdnlicaa", sum := "3b7141b07dac202d5ec0fe7e6ca790665300d20e380f511f7f33d0eb07daa4dd", func := "loop.example/tablehouse/laws.FnExactReadBy", spec := "fnExactReadBy", unfollowed := true, recurses := true, apart := false }
def FnExactReadBySaid : Prop := fnExactReadByRow.holds Try.pinned (OpenSpec.ofChange fnExactReadBySpec)

/-- ITS FALSE NEIGHBOUR: 'it returns false'. Refute it at one input. -/
def fnExactReadByWrong : ChangeSpec := { name := "fnExactReadBy", fn := fun _ => fun
  | [d1, d2, d3] => { results := [.lit (.bool false)], args := [d1, d2, d3] }
  | _ => none }
def FnExactReadByWrongFalsely : Prop := fnExactReadByRow.holds Try.pinned (OpenSpec.ofChange fnExactReadByWrong)

/-- 'laws.FnExactLockWaits': WHATEVER THE INPUT: true; the input reads as it did. -/
def fnExactLockWaitsSpec : ChangeSpec := { name := "fnExactLockWaits", fn := fun _ => fun
  | [d1, d2] => { results := [.lit (.bool true)], args := [d1, d2] }
  | _ => none }
def fnExactLockWaitsRow : OpenClaim := { program := "ytjmeoggmdnlicaa", sum := "3b7141b07dac202d5ec0fe7e6ca790665300d20e380f511f7f33d0eb07daa4dd", func := "loop.example/tablehouse/laws.FnExactLockWaits", spec := "fnExactLockWaits", unfollowed := true, recurses := true, apart := false }
def FnExactLockWaitsSaid : Prop := fnExactLockWaitsRow.holds Try.pinned (OpenSpec.ofChange fnExactLockWaitsSpec)

/-- ITS FALSE NEIGHBOUR: 'it returns false'. Refute it at one input. -/
def fnExactLockWaitsWrong : ChangeSpec := { name := "fnExactLockWaits", fn := fun _ => fun
  | [d1, d2] => { results := [.lit (.bool false)], args := [d1, d2] }
  | _ => none }
def FnExactLockWaitsWrongFalsely : Prop := fnExactLockWaitsRow.holds Try.pinned (OpenSpec.ofChange fnExactLockWaitsWrong)

/-- 'laws.FnExactLockRing': WHATEVER THE INPUT: true; the input reads as it did. -/
def fnExactLockRingSpec : ChangeSpec := { name := "fnExactLockRing", fn := fun _ => fun
  | [d] => { results := [.lit (.bool true)], args := [d] }
  | _ => none }
def fnExactLockRingRow : OpenClaim := { program := "ytjmeoggmdnlicaa", sum := "3b7141b07dac202d5ec0fe7e6ca790665300d20e380f511f7f33d0eb07daa4dd", func := "loop.example/tablehouse/laws.FnExactLockRing", spec := "fnExactLockRing", unfollowed := true, recurses := true, apart := false }
def FnExactLockRingSaid : Prop := fnExactLockRingRow.holds Try.pinned (OpenSpec.ofChange fnExactLockRingSpec)

/-- ITS FALSE NEIGHBOUR: 'it returns false'. Refute it at one input. -/
def fnExactLockRingWrong : ChangeSpec := { name := "fnExactLockRing", fn := fun _ => fun
  | [d] => { results := [.lit (.bool false)], args := [d] }
  | _ => none }
def FnExactLockRingWrongFalsely : Prop := fnExactLockRingRow.holds Try.pinned (OpenSpec.ofChange fnExactLockRingWrong)

/-- 'laws.FnExactPrunedRows': WHATEVER THE INPUT: true; the input reads as it did. -/
def fnExactPrunedRowsSpec : ChangeSpec := { name := "fnExactPrunedRows", fn := fun _ => fun
  | [d1, d2, d3, d4, d5, d6] => { results := [.lit (.bool true)], args := [d1, d2, d3, d4, d5, d6] }
  | _ => none }
def fnExactPrunedRowsRow : OpenClaim := { program := "ytjmeoggmdnlicaa", sum := "3b7141b07dac202d5ec0fe7e6ca790665300d20e380f511f7f33d0eb07daa4dd", func := "loop.example/tablehouse/laws.FnExactPrunedRows", spec := "fnExactPrunedRows", unfollowed := true, recurses := true, apart := false }
def FnExactPrunedRowsSaid : Prop := fnExactPrunedRowsRow.holds Try.pinned (OpenSpec.ofChange fnExactPrunedRowsSpec)

/-- ITS FALSE NEIGHBOUR: 'it returns false'. Refute it at one input. -/
def fnExactPrunedRowsWrong : ChangeSpec := { name := "fnExactPrunedRows", fn := fun _ => fun
  | [d1, d2, d3, d4, d5, d6] => { results := [.lit (.bool false)], args := [d1, d2, d3, d4, d5, d6] }
  | _ => none }
def FnExactPrunedRowsWrongFalsely : Prop := fnExactPrunedRowsRow.holds Try.pinned (OpenSpec.ofChange fnExactPrunedRowsWrong)

/-- 'laws.FnPrunedRows': WHATEVER THE INPUT: true; the input reads as it did. -/
def fnPrunedRowsSpec : ChangeSpec := { name := "fnPrunedRows", fn := fun _ => fun
  | [d] => { results := [.lit (.bool true)], args := [d] }
  | _ => none }
def fnPrunedRowsRow : OpenClaim := { program := "ytjmeoggmdnlicaa", sum := "3b7141b07dac202d5ec0fe7e6ca790665300d20e380f511f7f33d0eb07daa4dd", func := "loop.example/tablehouse/laws.FnPrunedRows", spec := "fnPrunedRows", unfollowed := true, recurses := true, apart := false }
def FnPrunedRowsSaid : Prop := fnPrunedRowsRow.holds Try.pinned (OpenSpec.ofChange fnPrunedRowsSpec)

/-- ITS FALSE NEIGHBOUR: 'it returns false'. Refute it at one input. -/
def fnPrunedRowsWrong : ChangeSpec := { name := "fnPrunedRows", fn := fun _ => fun
  | [d] => { results := [.lit (.bool false)], args := [d] }
  | _ => none }
def FnPrunedRowsWrongFalsely : Prop := fnPrunedRowsRow.holds Try.pinned (OpenSpec.ofChange fnPrunedRowsWrong)

/-- 'laws.FnWholePruned': WHATEVER THE INPUT: true; the input reads as it did. -/
def fnWholePrunedSpec : ChangeSpec := { name := "fnWholePruned", fn := fun _ => fun
  | [d] => { results := [.lit (.bool true)], args := [d] }
  | _ => none }
def fnWholePrunedRow : OpenClaim := { program := "ytjmeoggmdnlicaa", sum := "3b7141b07dac202d5ec0fe7e6ca790665300d20e380f511f7f33d0eb07daa4dd", func := "loop.example/tablehouse/laws.FnWholePruned", spec := "fnWholePruned", unfollowed := true, recurses := true, apart := false }
def FnWholePrunedSaid : Prop := fnWholePrunedRow.holds Try.pinned (OpenSpec.ofChange fnWholePrunedSpec)

/-- ITS FALSE NEIGHBOUR: 'it returns false'. Refute it at one input. -/
def fnWholePrunedWrong : ChangeSpec := { name := "fnWholePruned", fn := fun _ => fun
  | [d] => { results := [.lit (.bool false)], args := [d] }
  | _ => none }
def FnWholePrunedWrongFalsely : Prop := fnWholePrunedRow.holds Try.pinned (OpenSpec.ofChange fnWholePrunedWrong)

/-- 'laws.FnExactDeltaOf': WHATEVER THE INPUT: true; the input reads as it did. -/
def fnExactDeltaOfSpec : ChangeSpec := { name := "fnExactDeltaOf", fn := fun _ => fun
  | [d1, d2] => { results := [.lit (.bool true)], args := [d1, d2] }
  | _ => none }
def fnExactDeltaOfRow : OpenClaim := { program := "ytjmeoggmdnlicaa", sum := "3b7141b07dac202d5ec0fe7e6ca790665300d20e380f511f7f33d0eb07daa4dd", func := "loop.example/tablehouse/laws.FnExactDeltaOf", spec := "fnExactDeltaOf", unfollowed := true, recurses := true, apart := false }
def FnExactDeltaOfSaid : Prop := fnExactDeltaOfRow.holds Try.pinned (OpenSpec.ofChange fnExactDeltaOfSpec)

/-- ITS FALSE NEIGHBOUR: 'it returns false'. Refute it at one input. -/
def fnExactDeltaOfWrong : ChangeSpec := { name := "fnExactDeltaOf", fn := fun _ => fun
  | [d1, d2] => { results := [.lit (.bool false)], args := [d1, d2] }
  | _ => none }
def FnExactDeltaOfWrongFalsely : Prop := fnExactDeltaOfRow.holds Try.pinned (OpenSpec.ofChange fnExactDeltaOfWrong)

/-- 'laws.FnExactMergeJoin': WHATEVER THE INPUT: true; the input reads as it did. -/
def fnExactMergeJoinSpec : ChangeSpec := { name := "fnExactMergeJoin", fn := fun _ => fun
  | [d1, d2, d3, d4, d5, d6] => { results := [.lit (.bool true)], args := [d1, d2, d3, d4, d5, d6] }
  | _ => none }
def fnExactMergeJoinRow : OpenClaim := { program := "ytjmeoggmdnlicaa", sum := "3b7141b07dac202d5ec0fe7e6ca790665300d20e380f511f7f33d0eb07daa4dd", func := "loop.example/tablehouse/laws.FnExactMergeJoin", spec := "fnExactMergeJoin", unfollowed := true, recurses := true, apart := false }
def FnExactMergeJoinSaid : Prop := fnExactMergeJoinRow.holds Try.pinned (OpenSpec.ofChange fnExactMergeJoinSpec)

/-- ITS FALSE NEIGHBOUR: 'it returns false'. Refute it at one input. -/
def fnExactMergeJoinWrong : ChangeSpec := { name := "fnExactMergeJoin", fn := fun _ => fun
  | [d1, d2, d3, d4, d5, d6] => { results := [.lit (.bool false)], args := [d1, d2, d3, d4, d5, d6] }
  | _ => none }
def FnExactMergeJoinWrongFalsely : Prop := fnExactMergeJoinRow.holds Try.pinned (OpenSpec.ofChange fnExactMergeJoinWrong)

/-- 'laws.FnExactWrittenAt': WHATEVER THE INPUT: true; the input reads as it did. -/
def fnExactWrittenAtSpec : ChangeSpec := { name := "fnExactWrittenAt", fn := fun _ => fun
  | [d1, d2, d3] => { results := [.lit (.bool true)], args := [d1, d2, d3] }
  | _ => none }
def fnExactWrittenAtRow : OpenClaim := { program := "ytjmeoggmdnlicaa", sum := "3b7141b07dac202d5ec0fe7e6ca790665300d20e380f511f7f33d0eb07daa4dd", func := "loop.example/tablehouse/laws.FnExactWrittenAt", spec := "fnExactWrittenAt", unfollowed := true, recurses := true, apart := false }
def FnExactWrittenAtSaid : Prop := fnExactWrittenAtRow.holds Try.pinned (OpenSpec.ofChange fnExactWrittenAtSpec)

/-- ITS FALSE NEIGHBOUR: 'it returns false'. Refute it at one input. -/
def fnExactWrittenAtWrong : ChangeSpec := { name := "fnExactWrittenAt", fn := fun _ => fun
  | [d1, d2, d3] => { results := [.lit (.bool false)], args := [d1, d2, d3] }
  | _ => none }
def FnExactWrittenAtWrongFalsely : Prop := fnExactWrittenAtRow.holds Try.pinned (OpenSpec.ofChange fnExactWrittenAtWrong)

/-- 'laws.FnLogFrom': WHATEVER THE INPUT: true; the input reads as it did. -/
def fnLogFromSpec : ChangeSpec := { name := "fnLogFrom", fn := fun _ => fun
  | [d] => { results := [.lit (.bool true)], args := [d] }
  | _ => none }
def fnLogFromRow : OpenClaim := { program := "ytjmeoggmdnlicaa", sum := "3b7141b07dac202d5ec0fe7e6ca790665300d20e380f511f7f33d0eb07daa4dd", func := "loop.example/tablehouse/laws.FnLogFrom", spec := "fnLogFrom", unfollowed := true, recurses := true, apart := false }
def FnLogFromSaid : Prop := fnLogFromRow.holds Try.pinned (OpenSpec.ofChange fnLogFromSpec)

/-- ITS FALSE NEIGHBOUR: 'it returns false'. Refute it at one input. -/
def fnLogFromWrong : ChangeSpec := { name := "fnLogFrom", fn := fun _ => fun
  | [d] => { results := [.lit (.bool false)], args := [d] }
  | _ => none }
def FnLogFromWrongFalsely : Prop := fnLogFromRow.holds Try.pinned (OpenSpec.ofChange fnLogFromWrong)

/-- 'laws.FnPlanOk': WHATEVER THE INPUT: true; the input reads as it did. -/
def fnPlanOkSpec : ChangeSpec := { name := "fnPlanOk", fn := fun _ => fun
  | [d] => { results := [.lit (.bool true)], args := [d] }
  | _ => none }
def fnPlanOkRow : OpenClaim := { program := "ytjmeoggmdnlicaa", sum := "3b7141b07dac202d5ec0fe7e6ca790665300d20e380f511f7f33d0eb07daa4dd", func := "loop.example/tablehouse/laws.FnPlanOk", spec := "fnPlanOk", unfollowed := true, recurses := true, apart := false }
def FnPlanOkSaid : Prop := fnPlanOkRow.holds Try.pinned (OpenSpec.ofChange fnPlanOkSpec)

/-- ITS FALSE NEIGHBOUR: 'it returns false'. Refute it at one input. -/
def fnPlanOkWrong : ChangeSpec := { name := "fnPlanOk", fn := fun _ => fun
  | [d] => { results := [.lit (.bool false)], args := [d] }
  | _ => none }
def FnPlanOkWrongFalsely : Prop := fnPlanOkRow.holds Try.pinned (OpenSpec.ofChange fnPlanOkWrong)

/- THE SECOND FORM. 'bulk': how many values and letters a reading holds, each counted each time it is reached (what is shared counts as often as it is met; a slice's spare places count too). A statement '..UptoSaid' is the law's where the arguments, and the package variables that the reading takes, are together of bulk at most 1048576: NARROWER than '..Said'. Prove '..Said' where nothing that the law and all that it calls make is longer than what came in: it says more and counts as full. Else prove '..UptoSaid'. A law counts once. -/
mutual
def uptoBulk {H : Type} : DataW H → Nat
  | .lit (.string bytes) => bytes.length + 1
  | .lit _ => 1
  | .nil => 1
  | .ptr d => uptoBulk d + 1
  | .slice elems spare => uptoBulkAll elems + uptoBulkAll spare + 1
  | .agg parts => uptoBulkAll parts + 1
  | .iface _ d => uptoBulk d + 1
  | .map entries => uptoBulkEntries entries + 1
  | .held _ => 1
def uptoBulkAll {H : Type} : List (DataW H) → Nat
  | [] => 0
  | d :: r => uptoBulk d + uptoBulkAll r
def uptoBulkEntries {H : Type} : List (Lit × DataW H) → Nat
  | [] => 0
  | x :: r => uptoBulkEntry x + uptoBulkEntries r
def uptoBulkEntry {H : Type} : Lit × DataW H → Nat
  | (.string bytes, d) => bytes.length + uptoBulk d + 1
  | (_, d) => uptoBulk d + 1
 end
def uptoSmall : (H : Type) → List (DataW H) → Bool := fun _ ds => decide (uptoBulkAll ds ≤ 1048576)
def OpenSpec.upto (s : _root_.Go.ChangeSpec) : _root_.Go.OpenSpec := { _root_.Go.OpenSpec.ofChange s with cond := some uptoSmall }

/-- 'laws.FnExactTablesAfter', WHERE WHAT IT READS IS OF BULK AT MOST 1048576: true; the input reads as it did. -/
def fnExactTablesAfterUptoRow : OpenClaim := { program := "ytjmeoggmdnlicaa", sum := "3b7141b07dac202d5ec0fe7e6ca790665300d20e380f511f7f33d0eb07daa4dd", func := "loop.example/tablehouse/laws.FnExactTablesAfter", spec := "fnExactTablesAfter", unfollowed := true, recurses := true, apart := false, narrowed := true }
def FnExactTablesAfterUptoSaid : Prop := fnExactTablesAfterUptoRow.holds Try.pinned (OpenSpec.upto fnExactTablesAfterSpec)

/-- 'laws.FnExactReadBy', WHERE WHAT IT READS IS OF BULK AT MOST 1048576: true; the input reads as it did. -/
def fnExactReadByUptoRow : OpenClaim := { program := "ytjmeoggmdnlicaa", sum := "3b7141b07dac202d5ec0fe7e6ca790665300d20e380f511f7f33d0eb07daa4dd", func := "loop.example/tablehouse/laws.FnExactReadBy", spec := "fnExactReadBy", unfollowed := true, recurses := true, apart := false, narrowed := true }
def FnExactReadByUptoSaid : Prop := fnExactReadByUptoRow.holds Try.pinned (OpenSpec.upto fnExactReadBySpec)

/-- 'laws.FnExactLockWaits', WHERE WHAT IT READS IS OF BULK AT MOST 1048576: true; the input reads as it did. -/
def fnExactLockWaitsUptoRow : OpenClaim := { program := "ytjmeoggmdnlicaa", sum := "3b7141b07dac202d5ec0fe7e6ca790665300d20e380f511f7f33d0eb07daa4dd", func := "loop.example/tablehouse/laws.FnExactLockWaits", spec := "fnExactLockWaits", unfollowed := true, recurses := true, apart := false, narrowed := true }
def FnExactLockWaitsUptoSaid : Prop := fnExactLockWaitsUptoRow.holds Try.pinned (OpenSpec.upto fnExactLockWaitsSpec)

/-- 'laws.FnExactLockRing', WHERE WHAT IT READS IS OF BULK AT MOST 1048576: true; the input reads as it did. -/
def fnExactLockRingUptoRow : OpenClaim := { program := "ytjmeoggmdnlicaa", sum := "3b7141b07dac202d5ec0fe7e6ca790665300d20e380f511f7f33d0eb07daa4dd", func := "loop.example/tablehouse/laws.FnExactLockRing", spec := "fnExactLockRing", unfollowed := true, recurses := true, apart := false, narrowed := true }
def FnExactLockRingUptoSaid : Prop := fnExactLockRingUptoRow.holds Try.pinned (OpenSpec.upto fnExactLockRingSpec)

/-- 'laws.FnExactPrunedRows', WHERE WHAT IT READS IS OF BULK AT MOST 1048576: true; the input reads as it did. -/
def fnExactPrunedRowsUptoRow : OpenClaim := { program := "ytjmeoggmdnlicaa", sum := "3b7141b07dac202d5ec0fe7e6ca790665300d20e380f511f7f33d0eb07daa4dd", func := "loop.example/tablehouse/laws.FnExactPrunedRows", spec := "fnExactPrunedRows", unfollowed := true, recurses := true, apart := false, narrowed := true }
def FnExactPrunedRowsUptoSaid : Prop := fnExactPrunedRowsUptoRow.holds Try.pinned (OpenSpec.upto fnExactPrunedRowsSpec)

/-- 'laws.FnPrunedRows', WHERE WHAT IT READS IS OF BULK AT MOST 1048576: true; the input reads as it did. -/
def fnPrunedRowsUptoRow : OpenClaim := { program := "ytjmeoggmdnlicaa", sum := "3b7141b07dac202d5ec0fe7e6ca790665300d20e380f511f7f33d0eb07daa4dd", func := "loop.example/tablehouse/laws.FnPrunedRows", spec := "fnPrunedRows", unfollowed := true, recurses := true, apart := false, narrowed := true }
def FnPrunedRowsUptoSaid : Prop := fnPrunedRowsUptoRow.holds Try.pinned (OpenSpec.upto fnPrunedRowsSpec)

/-- 'laws.FnWholePruned', WHERE WHAT IT READS IS OF BULK AT MOST 1048576: true; the input reads as it did. -/
def fnWholePrunedUptoRow : OpenClaim := { program := "ytjmeoggmdnlicaa", sum := "3b7141b07dac202d5ec0fe7e6ca790665300d20e380f511f7f33d0eb07daa4dd", func := "loop.example/tablehouse/laws.FnWholePruned", spec := "fnWholePruned", unfollowed := true, recurses := true, apart := false, narrowed := true }
def FnWholePrunedUptoSaid : Prop := fnWholePrunedUptoRow.holds Try.pinned (OpenSpec.upto fnWholePrunedSpec)

/-- 'laws.FnExactDeltaOf', WHERE WHAT IT READS IS OF BULK AT MOST 1048576: true; the input reads as it did. -/
def fnExactDeltaOfUptoRow : OpenClaim := { program := "ytjmeoggmdnlicaa", sum := "3b7141b07dac202d5ec0fe7e6ca790665300d20e380f511f7f33d0eb07daa4dd", func := "loop.example/tablehouse/laws.FnExactDeltaOf", spec := "fnExactDeltaOf", unfollowed := true, recurses := true, apart := false, narrowed := true }
def FnExactDeltaOfUptoSaid : Prop := fnExactDeltaOfUptoRow.holds Try.pinned (OpenSpec.upto fnExactDeltaOfSpec)

/-- 'laws.FnExactMergeJoin', WHERE WHAT IT READS IS OF BULK AT MOST 1048576: true; the input reads as it did. -/
def fnExactMergeJoinUptoRow : OpenClaim := { program := "ytjmeoggmdnlicaa", sum := "3b7141b07dac202d5ec0fe7e6ca790665300d20e380f511f7f33d0eb07daa4dd", func := "loop.example/tablehouse/laws.FnExactMergeJoin", spec := "fnExactMergeJoin", unfollowed := true, recurses := true, apart := false, narrowed := true }
def FnExactMergeJoinUptoSaid : Prop := fnExactMergeJoinUptoRow.holds Try.pinned (OpenSpec.upto fnExactMergeJoinSpec)

/-- 'laws.FnExactWrittenAt', WHERE WHAT IT READS IS OF BULK AT MOST 1048576: true; the input reads as it did. -/
def fnExactWrittenAtUptoRow : OpenClaim := { program := "ytjmeoggmdnlicaa", sum := "3b7141b07dac202d5ec0fe7e6ca790665300d20e380f511f7f33d0eb07daa4dd", func := "loop.example/tablehouse/laws.FnExactWrittenAt", spec := "fnExactWrittenAt", unfollowed := true, recurses := true, apart := false, narrowed := true }
def FnExactWrittenAtUptoSaid : Prop := fnExactWrittenAtUptoRow.holds Try.pinned (OpenSpec.upto fnExactWrittenAtSpec)

/-- 'laws.FnLogFrom', WHERE WHAT IT READS IS OF BULK AT MOST 1048576: true; the input reads as it did. -/
def fnLogFromUptoRow : OpenClaim := { program := "ytjmeoggmdnlicaa", sum := "3b7141b07dac202d5ec0fe7e6ca790665300d20e380f511f7f33d0eb07daa4dd", func := "loop.example/tablehouse/laws.FnLogFrom", spec := "fnLogFrom", unfollowed := true, recurses := true, apart := false, narrowed := true }
def FnLogFromUptoSaid : Prop := fnLogFromUptoRow.holds Try.pinned (OpenSpec.upto fnLogFromSpec)

/-- 'laws.FnPlanOk', WHERE WHAT IT READS IS OF BULK AT MOST 1048576: true; the input reads as it did. -/
def fnPlanOkUptoRow : OpenClaim := { program := "ytjmeoggmdnlicaa", sum := "3b7141b07dac202d5ec0fe7e6ca790665300d20e380f511f7f33d0eb07daa4dd", func := "loop.example/tablehouse/laws.FnPlanOk", spec := "fnPlanOk", unfollowed := true, recurses := true, apart := false, narrowed := true }
def FnPlanOkUptoSaid : Prop := fnPlanOkUptoRow.holds Try.pinned (OpenSpec.upto fnPlanOkSpec)

end Rows
end Go.Proofs.Ytjmeoggmdnlicaa
