/-
  No cell of these rows narrows 'for every input' (looked for: loops, veiled, ifaces, maps, wideKeys, modest, calm, conditions, laid).
  DERIVED. THE GIVEN ROWS OF THIS SEAT. 9 by the template 'for every input the law returns true; each argument reads behind the call as it read before'; 0 by the template 'total and deterministic' (their statements: YtdkpmckpcejceaaTotals.lean).
  GIVEN WITH THE SEED: the statements are not yours to turn. If you find one false, say at which input.
  Laid BY PROGRAM, IN A SANDBOX (cutbox-rows.mjs): the forced cells as the released guide's own fill.sh prints them over the translation bfb58405edf09d1d… (all of the seat's roots in one cut). By AI agents, Wed Nov 11 2026. No macro, syntax, notation, axiom, sorry.
-/
import Derived.Test.YtdkpmckpcejceaaChecked
import GoSem.Claim
import GoSem.ClaimJoined
import GoSem.ClaimMapViews
import Derived.JoinedTies
import Derived.KernelRfl
namespace Go.Proofs.Ytdkpmckpcejceaa
/- THE CELL 'sum', in the pinned program and in every row, IS THE sha256 OF THE DUMP (.gsa) THAT YtdkpmckpcejceaaProg.lean LOADS. Nothing in Lean hashes anything: it is a label: what it is worth is what the hold of that sum in a sandbox is worth. -/
noncomputable def Try.pinned : Pinned := { name := "ytdkpmckpcejceaa", sum := "bfb58405edf09d1d4166fe5dacd4b4b19c486f7869f31882ee54db5eec14da0c", checked := Try.checked }
namespace Rows
def none {H : Type} : Left H := { results := [], args := [] }

/-- 'laws.FnExactLockRing': WHATEVER THE INPUT: true; the input reads as it did. -/
def fnExactLockRingSpec : ChangeSpec := { name := "fnExactLockRing", fn := fun _ => fun
  | [d] => { results := [.lit (.bool true)], args := [d] }
  | _ => none }
def fnExactLockRingRow : OpenClaim := { program := "ytdkpmckpcejceaa", sum := "bfb58405edf09d1d4166fe5dacd4b4b19c486f7869f31882ee54db5eec14da0c", func := "loop.example/tablehouse/laws.FnExactLockRing", spec := "fnExactLockRing", unfollowed := true, recurses := true, apart := false }
def FnExactLockRingSaid : Prop := fnExactLockRingRow.holds Try.pinned (OpenSpec.ofChange fnExactLockRingSpec)

/-- ITS FALSE NEIGHBOUR: 'it returns false'. Refute it at one input. -/
def fnExactLockRingWrong : ChangeSpec := { name := "fnExactLockRing", fn := fun _ => fun
  | [d] => { results := [.lit (.bool false)], args := [d] }
  | _ => none }
def FnExactLockRingWrongFalsely : Prop := fnExactLockRingRow.holds Try.pinned (OpenSpec.ofChange fnExactLockRingWrong)

/-- 'laws.FnExactReadBy': WHATEVER THE INPUT: true; the input reads as it did. -/
def fnExactReadBySpec : ChangeSpec := { name := "fnExactReadBy", fn := fun _ => fun
  | [d1, d2, d3] => { results := [.lit (.bool true)], args := [d1, d2, d3] }
  | _ => none }
def fnExactReadByRow : OpenClaim := { program := "ytdkpmckpcejceaa", sum := "bfb58405edf09d1d4166fe5dacd4b4b19c486f7869f31882ee54db5eec14da0c", func := "loop.example/tablehouse/laws.FnExactReadBy", spec := "fnExactReadBy", unfollowed := true, recurses := true, apart := false }
def FnExactReadBySaid : Prop := fnExactReadByRow.holds Try.pinned (OpenSpec.ofChange fnExactReadBySpec)

/-- ITS FALSE NEIGHBOUR: 'it returns false'. Refute it at one input. -/
def fnExactReadByWrong : ChangeSpec := { name := "fnExactReadBy", fn := fun _ => fun
  | [d1, d2, d3] => { results := [.lit (.bool false)], args := [d1, d2, d3] }
  | _ => none }
def FnExactReadByWrongFalsely : Prop := fnExactReadByRow.holds Try.pinned (OpenSpec.ofChange fnExactReadByWrong)

/-- 'laws.FnExactTablesAfter': WHATEVER THE INPUT: true; the input reads as it did. -/
def fnExactTablesAfterSpec : ChangeSpec := { name := "fnExactTablesAfter", fn := fun _ => fun
  | [d1, d2] => { results := [.lit (.bool true)], args := [d1, d2] }
  | _ => none }
def fnExactTablesAfterRow : OpenClaim := { program := "ytdkpmckpcejceaa", sum := "bfb58405edf09d1d4166fe5dacd4b4b19c486f7869f31882ee54db5eec14da0c", func := "loop.example/tablehouse/laws.FnExactTablesAfter", spec := "fnExactTablesAfter", unfollowed := true, recurses := true, apart := false }
def FnExactTablesAfterSaid : Prop := fnExactTablesAfterRow.holds Try.pinned (OpenSpec.ofChange fnExactTablesAfterSpec)

/-- ITS FALSE NEIGHBOUR: 'it returns false'. Refute it at one input. -/
def fnExactTablesAfterWrong : ChangeSpec := { name := "fnExactTablesAfter", fn := fun _ => fun
  | [d1, d2] => { results := [.lit (.bool false)], args := [d1, d2] }
  | _ => none }
def FnExactTablesAfterWrongFalsely : Prop := fnExactTablesAfterRow.holds Try.pinned (OpenSpec.ofChange fnExactTablesAfterWrong)

/-- 'laws.FnLockWaits': WHATEVER THE INPUT: true; the input reads as it did. -/
def fnLockWaitsSpec : ChangeSpec := { name := "fnLockWaits", fn := fun _ => fun
  | [d] => { results := [.lit (.bool true)], args := [d] }
  | _ => none }
def fnLockWaitsRow : OpenClaim := { program := "ytdkpmckpcejceaa", sum := "bfb58405edf09d1d4166fe5dacd4b4b19c486f7869f31882ee54db5eec14da0c", func := "loop.example/tablehouse/laws.FnLockWaits", spec := "fnLockWaits", unfollowed := true, recurses := true, apart := false }
def FnLockWaitsSaid : Prop := fnLockWaitsRow.holds Try.pinned (OpenSpec.ofChange fnLockWaitsSpec)

/-- ITS FALSE NEIGHBOUR: 'it returns false'. Refute it at one input. -/
def fnLockWaitsWrong : ChangeSpec := { name := "fnLockWaits", fn := fun _ => fun
  | [d] => { results := [.lit (.bool false)], args := [d] }
  | _ => none }
def FnLockWaitsWrongFalsely : Prop := fnLockWaitsRow.holds Try.pinned (OpenSpec.ofChange fnLockWaitsWrong)

/-- 'laws.FnHouseOk': WHATEVER THE INPUT: true; the input reads as it did. -/
def fnHouseOkSpec : ChangeSpec := { name := "fnHouseOk", fn := fun _ => fun
  | [d] => { results := [.lit (.bool true)], args := [d] }
  | _ => none }
def fnHouseOkRow : OpenClaim := { program := "ytdkpmckpcejceaa", sum := "bfb58405edf09d1d4166fe5dacd4b4b19c486f7869f31882ee54db5eec14da0c", func := "loop.example/tablehouse/laws.FnHouseOk", spec := "fnHouseOk", unfollowed := true, recurses := true, apart := false }
def FnHouseOkSaid : Prop := fnHouseOkRow.holds Try.pinned (OpenSpec.ofChange fnHouseOkSpec)

/-- ITS FALSE NEIGHBOUR: 'it returns false'. Refute it at one input. -/
def fnHouseOkWrong : ChangeSpec := { name := "fnHouseOk", fn := fun _ => fun
  | [d] => { results := [.lit (.bool false)], args := [d] }
  | _ => none }
def FnHouseOkWrongFalsely : Prop := fnHouseOkRow.holds Try.pinned (OpenSpec.ofChange fnHouseOkWrong)

/-- 'laws.FnBeside': WHATEVER THE INPUT: true; the input reads as it did. -/
def fnBesideSpec : ChangeSpec := { name := "fnBeside", fn := fun _ => fun
  | [d] => { results := [.lit (.bool true)], args := [d] }
  | _ => none }
def fnBesideRow : OpenClaim := { program := "ytdkpmckpcejceaa", sum := "bfb58405edf09d1d4166fe5dacd4b4b19c486f7869f31882ee54db5eec14da0c", func := "loop.example/tablehouse/laws.FnBeside", spec := "fnBeside", unfollowed := true, recurses := true, apart := false }
def FnBesideSaid : Prop := fnBesideRow.holds Try.pinned (OpenSpec.ofChange fnBesideSpec)

/-- ITS FALSE NEIGHBOUR: 'it returns false'. Refute it at one input. -/
def fnBesideWrong : ChangeSpec := { name := "fnBeside", fn := fun _ => fun
  | [d] => { results := [.lit (.bool false)], args := [d] }
  | _ => none }
def FnBesideWrongFalsely : Prop := fnBesideRow.holds Try.pinned (OpenSpec.ofChange fnBesideWrong)

/-- 'laws.FnPlanOk': WHATEVER THE INPUT: true; the input reads as it did. -/
def fnPlanOkSpec : ChangeSpec := { name := "fnPlanOk", fn := fun _ => fun
  | [d] => { results := [.lit (.bool true)], args := [d] }
  | _ => none }
def fnPlanOkRow : OpenClaim := { program := "ytdkpmckpcejceaa", sum := "bfb58405edf09d1d4166fe5dacd4b4b19c486f7869f31882ee54db5eec14da0c", func := "loop.example/tablehouse/laws.FnPlanOk", spec := "fnPlanOk", unfollowed := true, recurses := true, apart := false }
def FnPlanOkSaid : Prop := fnPlanOkRow.holds Try.pinned (OpenSpec.ofChange fnPlanOkSpec)

/-- ITS FALSE NEIGHBOUR: 'it returns false'. Refute it at one input. -/
def fnPlanOkWrong : ChangeSpec := { name := "fnPlanOk", fn := fun _ => fun
  | [d] => { results := [.lit (.bool false)], args := [d] }
  | _ => none }
def FnPlanOkWrongFalsely : Prop := fnPlanOkRow.holds Try.pinned (OpenSpec.ofChange fnPlanOkWrong)

/-- 'laws.FnWholeRuns': WHATEVER THE INPUT: true; the input reads as it did. -/
def fnWholeRunsSpec : ChangeSpec := { name := "fnWholeRuns", fn := fun _ => fun
  | [d] => { results := [.lit (.bool true)], args := [d] }
  | _ => none }
def fnWholeRunsRow : OpenClaim := { program := "ytdkpmckpcejceaa", sum := "bfb58405edf09d1d4166fe5dacd4b4b19c486f7869f31882ee54db5eec14da0c", func := "loop.example/tablehouse/laws.FnWholeRuns", spec := "fnWholeRuns", inPlace := ["slices.overlaps[[]loop.example/tablehouse/impl.Value]"], unfollowed := true, recurses := true, apart := false }
def FnWholeRunsSaid : Prop := fnWholeRunsRow.holds Try.pinned (OpenSpec.ofChange fnWholeRunsSpec)

/-- ITS FALSE NEIGHBOUR: 'it returns false'. Refute it at one input. -/
def fnWholeRunsWrong : ChangeSpec := { name := "fnWholeRuns", fn := fun _ => fun
  | [d] => { results := [.lit (.bool false)], args := [d] }
  | _ => none }
def FnWholeRunsWrongFalsely : Prop := fnWholeRunsRow.holds Try.pinned (OpenSpec.ofChange fnWholeRunsWrong)

/-- 'laws.FnExactDeltaOf': WHATEVER THE INPUT: true; the input reads as it did. -/
def fnExactDeltaOfSpec : ChangeSpec := { name := "fnExactDeltaOf", fn := fun _ => fun
  | [d1, d2] => { results := [.lit (.bool true)], args := [d1, d2] }
  | _ => none }
def fnExactDeltaOfRow : OpenClaim := { program := "ytdkpmckpcejceaa", sum := "bfb58405edf09d1d4166fe5dacd4b4b19c486f7869f31882ee54db5eec14da0c", func := "loop.example/tablehouse/laws.FnExactDeltaOf", spec := "fnExactDeltaOf", unfollowed := true, recurses := true, apart := false }
def FnExactDeltaOfSaid : Prop := fnExactDeltaOfRow.holds Try.pinned (OpenSpec.ofChange fnExactDeltaOfSpec)

/-- ITS FALSE NEIGHBOUR: 'it returns false'. Refute it at one input. -/
def fnExactDeltaOfWrong : ChangeSpec := { name := "fnExactDeltaOf", fn := fun _ => fun
  | [d1, d2] => { results := [.lit (.bool false)], args := [d1, d2] }
  | _ => none }
def FnExactDeltaOfWrongFalsely : Prop := fnExactDeltaOfRow.holds Try.pinned (OpenSpec.ofChange fnExactDeltaOfWrong)

/- THE SECOND FORM. 'bulk': how many values and letters a reading holds, each counted each time it is reached (what is shared counts as often as it is met; a slice's spare places count too). A statement '..UptoSaid' is the law's where the arguments, and the package variables that the reading takes, are together of bulk at most 1048576: NARROWER than '..Said'. Prove '..Said' where nothing that the law and all that it calls make is longer than what came in: it says more and counts as full. Else prove '..UptoSaid'. A law counts once. -/
mutual
def uptoBulk {H : Type} : DataW H → Nat
  | .lit (.string bytes) => bytes.length + 1
  | .lit _ => 1
  | .nil => 1
  | .ptr d => uptoBulk d + 1
  | .slice elems spare => uptoBulkAll elems + uptoBulkAll spare + 1
  | .agg parts => uptoBulkAll parts + 1
  | .iface _ d => uptoBulk d + 1
  | .map entries => uptoBulkEntries entries + 1
  | .held _ => 1
def uptoBulkAll {H : Type} : List (DataW H) → Nat
  | [] => 0
  | d :: r => uptoBulk d + uptoBulkAll r
def uptoBulkEntries {H : Type} : List (Lit × DataW H) → Nat
  | [] => 0
  | x :: r => uptoBulkEntry x + uptoBulkEntries r
def uptoBulkEntry {H : Type} : Lit × DataW H → Nat
  | (.string bytes, d) => bytes.length + uptoBulk d + 1
  | (_, d) => uptoBulk d + 1
 end
def uptoSmall : (H : Type) → List (DataW H) → Bool := fun _ ds => decide (uptoBulkAll ds ≤ 1048576)
def OpenSpec.upto (s : _root_.Go.ChangeSpec) : _root_.Go.OpenSpec := { _root_.Go.OpenSpec.ofChange s with cond := some uptoSmall }

/-- 'laws.FnExactLockRing', WHERE WHAT IT READS IS OF BULK AT MOST 1048576: true; the input reads as it did. -/
def fnExactLockRingUptoRow : OpenClaim := { program := "ytdkpmckpcejceaa", sum := "bfb58405edf09d1d4166fe5dacd4b4b19c486f7869f31882ee54db5eec14da0c", func := "loop.example/tablehouse/laws.FnExactLockRing", spec := "fnExactLockRing", unfollowed := true, recurses := true, apart := false, narrowed := true }
def FnExactLockRingUptoSaid : Prop := fnExactLockRingUptoRow.holds Try.pinned (OpenSpec.upto fnExactLockRingSpec)

/-- 'laws.FnExactReadBy', WHERE WHAT IT READS IS OF BULK AT MOST 1048576: true; the input reads as it did. -/
def fnExactReadByUptoRow : OpenClaim := { program := "ytdkpmckpcejceaa", sum := "bfb58405edf09d1d4166fe5dacd4b4b19c486f7869f31882ee54db5eec14da0c", func := "loop.example/tablehouse/laws.FnExactReadBy", spec := "fnExactReadBy", unfollowed := true, recurses := true, apart := false, narrowed := true }
def FnExactReadByUptoSaid : Prop := fnExactReadByUptoRow.holds Try.pinned (OpenSpec.upto fnExactReadBySpec)

/-- 'laws.FnExactTablesAfter', WHERE WHAT IT READS IS OF BULK AT MOST 1048576: true; the input reads as it did. -/
def fnExactTablesAfterUptoRow : OpenClaim := { program := "ytdkpmckpcejceaa", sum := "bfb58405edf09d1d4166fe5dacd4b4b19c486f7869f31882ee54db5eec14da0c", func := "loop.example/tablehouse/laws.FnExactTablesAfter", spec := "fnExactTablesAfter", unfollowed := true, recurses := true, apart := false, narrowed := true }
def FnExactTablesAfterUptoSaid : Prop := fnExactTablesAfterUptoRow.holds Try.pinned (OpenSpec.upto fnExactTablesAfterSpec)

/-- 'laws.FnLockWaits', WHERE WHAT IT READS IS OF BULK AT MOST 1048576: true; the input reads as it did. -/
def fnLockWaitsUptoRow : OpenClaim := { program := "ytdkpmckpcejceaa", sum := "bfb58405edf09d1d4166fe5dacd4b4b19c486f7869f31882ee54db5eec14da0c", func := "loop.example/tablehouse/laws.FnLockWaits", spec := "fnLockWaits", unfollowed := true, recurses := true, apart := false, narrowed := true }
def FnLockWaitsUptoSaid : Prop := fnLockWaitsUptoRow.holds Try.pinned (OpenSpec.upto fnLockWaitsSpec)

/-- 'laws.FnHouseOk', WHERE WHAT IT READS IS OF BULK AT MOST 1048576: true; the input reads as it did. -/
def fnHouseOkUptoRow : OpenClaim := { program := "ytdkpmckpcejceaa", sum := "bfb58405edf09d1d4166fe5dacd4b4b19c486f7869f31882ee54db5eec14da0c", func := "loop.example/tablehouse/laws.FnHouseOk", spec := "fnHouseOk", unfollowed := true, recurses := true, apart := false, narrowed := true }
def FnHouseOkUptoSaid : Prop := fnHouseOkUptoRow.holds Try.pinned (OpenSpec.upto fnHouseOkSpec)

/-- 'laws.FnBeside', WHERE WHAT IT READS IS OF BULK AT MOST 1048576: true; the input reads as it did. -/
def fnBesideUptoRow : OpenClaim := { program := "ytdkpmckpcejceaa", sum := "bfb58405edf09d1d4166fe5dacd4b4b19c486f7869f31882ee54db5eec14da0c", func := "loop.example/tablehouse/laws.FnBeside", spec := "fnBeside", unfollowed := true, recurses := true, apart := false, narrowed := true }
def FnBesideUptoSaid : Prop := fnBesideUptoRow.holds Try.pinned (OpenSpec.upto fnBesideSpec)

/-- 'laws.FnPlanOk', WHERE WHAT IT READS IS OF BULK AT MOST 1048576: true; the input reads as it did. -/
def fnPlanOkUptoRow : OpenClaim := { program := "ytdkpmckpcejceaa", sum := "bfb58405edf09d1d4166fe5dacd4b4b19c486f7869f31882ee54db5eec14da0c", func := "loop.example/tablehouse/laws.FnPlanOk", spec := "fnPlanOk", unfollowed := true, recurses := true, apart := false, narrowed := true }
def FnPlanOkUptoSaid : Prop := fnPlanOkUptoRow.holds Try.pinned (OpenSpec.upto fnPlanOkSpec)

/-- 'laws.FnWholeRuns', WHERE WHAT IT READS IS OF BULK AT MOST 1048576: true; the input reads as it did. -/
def fnWholeRunsUptoRow : OpenClaim := { program := "ytdkpmckpcejceaa", sum := "bfb58405edf09d1d4166fe5dacd4b4b19c486f7869f31882ee54db5eec14da0c", func := "loop.example/tablehouse/laws.FnWholeRuns", spec := "fnWholeRuns", inPlace := ["slices.overlaps[[]loop.example/tablehouse/impl.Value]"], unfollowed := true, recurses := true, apart := false, narrowed := true }
def FnWholeRunsUptoSaid : Prop := fnWholeRunsUptoRow.holds Try.pinned (OpenSpec.upto fnWholeRunsSpec)

/-- 'laws.FnExactDeltaOf', WHERE WHAT IT READS IS OF BULK AT MOST 1048576: true; the input reads as it did. -/
def fnExactDeltaOfUptoRow : OpenClaim := { program := "ytdkpmckpcejceaa", sum := "bfb58405edf09d1d4166fe5dacd4b4b19c486f7869f31882ee54db5eec14da0c", func := "loop.example/tablehouse/laws.FnExactDeltaOf", spec := "fnExactDeltaOf", unfollowed := true, recurses := true, apart := false, narrowed := true }
def FnExactDeltaOfUptoSaid : Prop := fnExactDeltaOfUptoRow.holds Try.pinned (OpenSpec.upto fnExactDeltaOfSpec)

end Rows
end Go.Proofs.Ytdkpmckpcejceaa
