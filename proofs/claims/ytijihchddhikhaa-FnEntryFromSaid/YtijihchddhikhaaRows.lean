/-
  No cell of these rows narrows 'for every input' (looked for: loops, veiled, ifaces, maps, wideKeys, modest, calm, conditions, laid).
  DERIVED. THE GIVEN ROWS OF THIS SEAT. 12 by the template 'for every input the law returns true; each argument reads behind the call as it read before'; 0 by the template 'total and deterministic' (their statements: YtijihchddhikhaaTotals.lean).
  GIVEN WITH THE SEED: the statements are not yours to turn. If you find one false, say at which input.
  Laid BY PROGRAM, IN A SANDBOX (cutbox-rows.mjs): the forced cells as the released guide's own fill.sh prints them over the translation f25ff96d59e086da… (all of the seat's roots in one cut). By AI agents, Wed Nov 11 2026. No macro, syntax, notation, axiom, sorry.
-/
import Derived.Test.YtijihchddhikhaaChecked
import GoSem.Claim
import GoSem.ClaimJoined
import GoSem.ClaimMapViews
import Derived.JoinedTies
import Derived.KernelRfl
namespace Go.Proofs.Ytijihchddhikhaa
/- THE CELL 'sum', in the pinned program and in every row, IS THE sha256 OF THE DUMP (.gsa) THAT YtijihchddhikhaaProg.lean LOADS. Nothing in Lean hashes anything: it is a label: what it is worth is what the hold of that sum in a sandbox is worth. -/
noncomputable def Try.pinned : Pinned := { name := "ytijihchddhikhaa", sum := "f25ff96d59e086da19735d54344d115324988dbd0e1ace7621a5ae93d85bb164", checked := Try.checked }
namespace Rows
def none {H : Type} : Left H := { results := [], args := [] }

/-- 'laws.FnWrittenAt': WHATEVER THE INPUT: true; the input reads as it did. -/
def fnWrittenAtSpec : ChangeSpec := { name := "fnWrittenAt", fn := fun _ => fun
  | [d] => { results := [.lit (.bool true)], args := [d] }
  | _ => none }
def fnWrittenAtRow : OpenClaim := { program := "ytijihchddhikhaa", sum := "f25ff96d59e086da19735d54344d115324988dbd0e1ace7621a5ae93d85bb164", func := "loop.example/tablehouse/laws.FnWrittenAt", spec := "fnWrittenAt", unfollowed := true, recurses := true, apart := false }
def FnWrittenAtSaid : Prop := fnWrittenAtRow.holds Try.pinned (OpenSpec.ofChange fnWrittenAtSpec)

/-- ITS FALSE NEIGHBOUR: 'it returns false'. Refute it at one input. -/
def fnWrittenAtWrong : ChangeSpec := { name := "fnWrittenAt", fn := fun _ => fun
  | [d] => { results := [.lit (.bool false)], args := [d] }
  | _ => none }
def FnWrittenAtWrongFalsely : Prop := fnWrittenAtRow.holds Try.pinned (OpenSpec.ofChange fnWrittenAtWrong)

/-- 'laws.FnWholeEntries': WHATEVER THE INPUT: true; the input reads as it did. -/
def fnWholeEntriesSpec : ChangeSpec := { name := "fnWholeEntries", fn := fun _ => fun
  | [d] => { results := [.lit (.bool true)], args := [d] }
  | _ => none }
def fnWholeEntriesRow : OpenClaim := { program := "ytijihchddhikhaa", sum := "f25ff96d59e086da19735d54344d115324988dbd0e1ace7621a5ae93d85bb164", func := "loop.example/tablehouse/laws.FnWholeEntries", spec := "fnWholeEntries", unfollowed := true, recurses := true, apart := false }
def FnWholeEntriesSaid : Prop := fnWholeEntriesRow.holds Try.pinned (OpenSpec.ofChange fnWholeEntriesSpec)

/-- ITS FALSE NEIGHBOUR: 'it returns false'. Refute it at one input. -/
def fnWholeEntriesWrong : ChangeSpec := { name := "fnWholeEntries", fn := fun _ => fun
  | [d] => { results := [.lit (.bool false)], args := [d] }
  | _ => none }
def FnWholeEntriesWrongFalsely : Prop := fnWholeEntriesRow.holds Try.pinned (OpenSpec.ofChange fnWholeEntriesWrong)

/-- 'laws.FnWholeSweep': WHATEVER THE INPUT: true; the input reads as it did. -/
def fnWholeSweepSpec : ChangeSpec := { name := "fnWholeSweep", fn := fun _ => fun
  | [d] => { results := [.lit (.bool true)], args := [d] }
  | _ => none }
def fnWholeSweepRow : OpenClaim := { program := "ytijihchddhikhaa", sum := "f25ff96d59e086da19735d54344d115324988dbd0e1ace7621a5ae93d85bb164", func := "loop.example/tablehouse/laws.FnWholeSweep", spec := "fnWholeSweep", unfollowed := true, recurses := true, apart := false }
def FnWholeSweepSaid : Prop := fnWholeSweepRow.holds Try.pinned (OpenSpec.ofChange fnWholeSweepSpec)

/-- ITS FALSE NEIGHBOUR: 'it returns false'. Refute it at one input. -/
def fnWholeSweepWrong : ChangeSpec := { name := "fnWholeSweep", fn := fun _ => fun
  | [d] => { results := [.lit (.bool false)], args := [d] }
  | _ => none }
def FnWholeSweepWrongFalsely : Prop := fnWholeSweepRow.holds Try.pinned (OpenSpec.ofChange fnWholeSweepWrong)

/-- 'laws.FnFollowed': WHATEVER THE INPUT: true; the input reads as it did. -/
def fnFollowedSpec : ChangeSpec := { name := "fnFollowed", fn := fun _ => fun
  | [d] => { results := [.lit (.bool true)], args := [d] }
  | _ => none }
def fnFollowedRow : OpenClaim := { program := "ytijihchddhikhaa", sum := "f25ff96d59e086da19735d54344d115324988dbd0e1ace7621a5ae93d85bb164", func := "loop.example/tablehouse/laws.FnFollowed", spec := "fnFollowed", unfollowed := true, recurses := true, apart := false }
def FnFollowedSaid : Prop := fnFollowedRow.holds Try.pinned (OpenSpec.ofChange fnFollowedSpec)

/-- ITS FALSE NEIGHBOUR: 'it returns false'. Refute it at one input. -/
def fnFollowedWrong : ChangeSpec := { name := "fnFollowed", fn := fun _ => fun
  | [d] => { results := [.lit (.bool false)], args := [d] }
  | _ => none }
def FnFollowedWrongFalsely : Prop := fnFollowedRow.holds Try.pinned (OpenSpec.ofChange fnFollowedWrong)

/-- 'laws.FnLogRun': WHATEVER THE INPUT: true; the input reads as it did. -/
def fnLogRunSpec : ChangeSpec := { name := "fnLogRun", fn := fun _ => fun
  | [d] => { results := [.lit (.bool true)], args := [d] }
  | _ => none }
def fnLogRunRow : OpenClaim := { program := "ytijihchddhikhaa", sum := "f25ff96d59e086da19735d54344d115324988dbd0e1ace7621a5ae93d85bb164", func := "loop.example/tablehouse/laws.FnLogRun", spec := "fnLogRun", unfollowed := true, recurses := true, apart := false }
def FnLogRunSaid : Prop := fnLogRunRow.holds Try.pinned (OpenSpec.ofChange fnLogRunSpec)

/-- ITS FALSE NEIGHBOUR: 'it returns false'. Refute it at one input. -/
def fnLogRunWrong : ChangeSpec := { name := "fnLogRun", fn := fun _ => fun
  | [d] => { results := [.lit (.bool false)], args := [d] }
  | _ => none }
def FnLogRunWrongFalsely : Prop := fnLogRunRow.holds Try.pinned (OpenSpec.ofChange fnLogRunWrong)

/-- 'laws.FnLogCut': WHATEVER THE INPUT: true; the input reads as it did. -/
def fnLogCutSpec : ChangeSpec := { name := "fnLogCut", fn := fun _ => fun
  | [d] => { results := [.lit (.bool true)], args := [d] }
  | _ => none }
def fnLogCutRow : OpenClaim := { program := "ytijihchddhikhaa", sum := "f25ff96d59e086da19735d54344d115324988dbd0e1ace7621a5ae93d85bb164", func := "loop.example/tablehouse/laws.FnLogCut", spec := "fnLogCut", unfollowed := true, recurses := true, apart := false }
def FnLogCutSaid : Prop := fnLogCutRow.holds Try.pinned (OpenSpec.ofChange fnLogCutSpec)

/-- ITS FALSE NEIGHBOUR: 'it returns false'. Refute it at one input. -/
def fnLogCutWrong : ChangeSpec := { name := "fnLogCut", fn := fun _ => fun
  | [d] => { results := [.lit (.bool false)], args := [d] }
  | _ => none }
def FnLogCutWrongFalsely : Prop := fnLogCutRow.holds Try.pinned (OpenSpec.ofChange fnLogCutWrong)

/-- 'laws.FnTalliesTurned': WHATEVER THE INPUT: true; the input reads as it did. -/
def fnTalliesTurnedSpec : ChangeSpec := { name := "fnTalliesTurned", fn := fun _ => fun
  | [d] => { results := [.lit (.bool true)], args := [d] }
  | _ => none }
def fnTalliesTurnedRow : OpenClaim := { program := "ytijihchddhikhaa", sum := "f25ff96d59e086da19735d54344d115324988dbd0e1ace7621a5ae93d85bb164", func := "loop.example/tablehouse/laws.FnTalliesTurned", spec := "fnTalliesTurned", inPlace := ["slices.overlaps[loop.example/tablehouse/impl.Tally]"], unfollowed := true, recurses := true, apart := false }
def FnTalliesTurnedSaid : Prop := fnTalliesTurnedRow.holds Try.pinned (OpenSpec.ofChange fnTalliesTurnedSpec)

/-- ITS FALSE NEIGHBOUR: 'it returns false'. Refute it at one input. -/
def fnTalliesTurnedWrong : ChangeSpec := { name := "fnTalliesTurned", fn := fun _ => fun
  | [d] => { results := [.lit (.bool false)], args := [d] }
  | _ => none }
def FnTalliesTurnedWrongFalsely : Prop := fnTalliesTurnedRow.holds Try.pinned (OpenSpec.ofChange fnTalliesTurnedWrong)

/-- 'laws.FnHouseOk': WHATEVER THE INPUT: true; the input reads as it did. -/
def fnHouseOkSpec : ChangeSpec := { name := "fnHouseOk", fn := fun _ => fun
  | [d] => { results := [.lit (.bool true)], args := [d] }
  | _ => none }
def fnHouseOkRow : OpenClaim := { program := "ytijihchddhikhaa", sum := "f25ff96d59e086da19735d54344d115324988dbd0e1ace7621a5ae93d85bb164", func := "loop.example/tablehouse/laws.FnHouseOk", spec := "fnHouseOk", unfollowed := true, recurses := true, apart := false }
def FnHouseOkSaid : Prop := fnHouseOkRow.holds Try.pinned (OpenSpec.ofChange fnHouseOkSpec)

/-- ITS FALSE NEIGHBOUR: 'it returns false'. Refute it at one input. -/
def fnHouseOkWrong : ChangeSpec := { name := "fnHouseOk", fn := fun _ => fun
  | [d] => { results := [.lit (.bool false)], args := [d] }
  | _ => none }
def FnHouseOkWrongFalsely : Prop := fnHouseOkRow.holds Try.pinned (OpenSpec.ofChange fnHouseOkWrong)

/-- 'laws.FnBeside': WHATEVER THE INPUT: true; the input reads as it did. -/
def fnBesideSpec : ChangeSpec := { name := "fnBeside", fn := fun _ => fun
  | [d] => { results := [.lit (.bool true)], args := [d] }
  | _ => none }
def fnBesideRow : OpenClaim := { program := "ytijihchddhikhaa", sum := "f25ff96d59e086da19735d54344d115324988dbd0e1ace7621a5ae93d85bb164", func := "loop.example/tablehouse/laws.FnBeside", spec := "fnBeside", unfollowed := true, recurses := true, apart := false }
def FnBesideSaid : Prop := fnBesideRow.holds Try.pinned (OpenSpec.ofChange fnBesideSpec)

/-- ITS FALSE NEIGHBOUR: 'it returns false'. Refute it at one input. -/
def fnBesideWrong : ChangeSpec := { name := "fnBeside", fn := fun _ => fun
  | [d] => { results := [.lit (.bool false)], args := [d] }
  | _ => none }
def FnBesideWrongFalsely : Prop := fnBesideRow.holds Try.pinned (OpenSpec.ofChange fnBesideWrong)

/-- 'laws.FnEntryFrom': WHATEVER THE INPUT: true; the input reads as it did. -/
def fnEntryFromSpec : ChangeSpec := { name := "fnEntryFrom", fn := fun _ => fun
  | [d] => { results := [.lit (.bool true)], args := [d] }
  | _ => none }
def fnEntryFromRow : OpenClaim := { program := "ytijihchddhikhaa", sum := "f25ff96d59e086da19735d54344d115324988dbd0e1ace7621a5ae93d85bb164", func := "loop.example/tablehouse/laws.FnEntryFrom", spec := "fnEntryFrom", unfollowed := true, recurses := true, apart := false }
def FnEntryFromSaid : Prop := fnEntryFromRow.holds Try.pinned (OpenSpec.ofChange fnEntryFromSpec)

/-- ITS FALSE NEIGHBOUR: 'it returns false'. Refute it at one input. -/
def fnEntryFromWrong : ChangeSpec := { name := "fnEntryFrom", fn := fun _ => fun
  | [d] => { results := [.lit (.bool false)], args := [d] }
  | _ => none }
def FnEntryFromWrongFalsely : Prop := fnEntryFromRow.holds Try.pinned (OpenSpec.ofChange fnEntryFromWrong)

/-- 'laws.FnLogFrom': WHATEVER THE INPUT: true; the input reads as it did. -/
def fnLogFromSpec : ChangeSpec := { name := "fnLogFrom", fn := fun _ => fun
  | [d] => { results := [.lit (.bool true)], args := [d] }
  | _ => none }
def fnLogFromRow : OpenClaim := { program := "ytijihchddhikhaa", sum := "f25ff96d59e086da19735d54344d115324988dbd0e1ace7621a5ae93d85bb164", func := "loop.example/tablehouse/laws.FnLogFrom", spec := "fnLogFrom", unfollowed := true, recurses := true, apart := false }
def FnLogFromSaid : Prop := fnLogFromRow.holds Try.pinned (OpenSpec.ofChange fnLogFromSpec)

/-- ITS FALSE NEIGHBOUR: 'it returns false'. Refute it at one input. -/
def fnLogFromWrong : ChangeSpec := { name := "fnLogFrom", fn := fun _ => fun
  | [d] => { results := [.lit (.bool false)], args := [d] }
  | _ => none }
def FnLogFromWrongFalsely : Prop := fnLogFromRow.holds Try.pinned (OpenSpec.ofChange fnLogFromWrong)

/-- 'laws.FnLockWaits': WHATEVER THE INPUT: true; the input reads as it did. -/
def fnLockWaitsSpec : ChangeSpec := { name := "fnLockWaits", fn := fun _ => fun
  | [d] => { results := [.lit (.bool true)], args := [d] }
  | _ => none }
def fnLockWaitsRow : OpenClaim := { program := "ytijihchddhikhaa", sum := "f25ff96d59e086da19735d54344d115324988dbd0e1ace7621a5ae93d85bb164", func := "loop.example/tablehouse/laws.FnLockWaits", spec := "fnLockWaits", unfollowed := true, recurses := true, apart := false }
def FnLockWaitsSaid : Prop := fnLockWaitsRow.holds Try.pinned (OpenSpec.ofChange fnLockWaitsSpec)

/-- ITS FALSE NEIGHBOUR: 'it returns false'. Refute it at one input. -/
def fnLockWaitsWrong : ChangeSpec := { name := "fnLockWaits", fn := fun _ => fun
  | [d] => { results := [.lit (.bool false)], args := [d] }
  | _ => none }
def FnLockWaitsWrongFalsely : Prop := fnLockWaitsRow.holds Try.pinned (OpenSpec.ofChange fnLockWaitsWrong)

/- THE SECOND FORM. 'bulk': how many values and letters a reading holds, each counted each time it is reached (what is shared counts as often as it is met; a slice's spare places count too). A statement '..UptoSaid' is the law's where the arguments, and the package variables that the reading takes, are together of bulk at most 1048576: NARROWER than '..Said'. Prove '..Said' where nothing that the law and all that it calls make is longer than what came in: it says more and counts as full. Else prove '..UptoSaid'. A law counts once. -/
mutual
def uptoBulk {H : Type} : DataW H → Nat
  | .lit (.string bytes) => bytes.length + 1
  | .lit _ => 1
  | .nil => 1
  | .ptr d => uptoBulk d + 1
  | .slice elems spare => uptoBulkAll elems + uptoBulkAll spare + 1
  | .agg parts => uptoBulkAll parts + 1
  | .iface _ d => uptoBulk d + 1
  | .map entries => uptoBulkEntries entries + 1
  | .held _ => 1
def uptoBulkAll {H : Type} : List (DataW H) → Nat
  | [] => 0
  | d :: r => uptoBulk d + uptoBulkAll r
def uptoBulkEntries {H : Type} : List (Lit × DataW H) → Nat
  | [] => 0
  | x :: r => uptoBulkEntry x + uptoBulkEntries r
def uptoBulkEntry {H : Type} : Lit × DataW H → Nat
  | (.string bytes, d) => bytes.length + uptoBulk d + 1
  | (_, d) => uptoBulk d + 1
 end
def uptoSmall : (H : Type) → List (DataW H) → Bool := fun _ ds => decide (uptoBulkAll ds ≤ 1048576)
def OpenSpec.upto (s : _root_.Go.ChangeSpec) : _root_.Go.OpenSpec := { _root_.Go.OpenSpec.ofChange s with cond := some uptoSmall }

/-- 'laws.FnWrittenAt', WHERE WHAT IT READS IS OF BULK AT MOST 1048576: true; the input reads as it did. -/
def fnWrittenAtUptoRow : OpenClaim := { program := "ytijihchddhikhaa", sum := "f25ff96d59e086da19735d54344d115324988dbd0e1ace7621a5ae93d85bb164", func := "loop.example/tablehouse/laws.FnWrittenAt", spec := "fnWrittenAt", unfollowed := true, recurses := true, apart := false, narrowed := true }
def FnWrittenAtUptoSaid : Prop := fnWrittenAtUptoRow.holds Try.pinned (OpenSpec.upto fnWrittenAtSpec)

/-- 'laws.FnWholeEntries', WHERE WHAT IT READS IS OF BULK AT MOST 1048576: true; the input reads as it did. -/
def fnWholeEntriesUptoRow : OpenClaim := { program := "ytijihchddhikhaa", sum := "f25ff96d59e086da19735d54344d115324988dbd0e1ace7621a5ae93d85bb164", func := "loop.example/tablehouse/laws.FnWholeEntries", spec := "fnWholeEntries", unfollowed := true, recurses := true, apart := false, narrowed := true }
def FnWholeEntriesUptoSaid : Prop := fnWholeEntriesUptoRow.holds Try.pinned (OpenSpec.upto fnWholeEntriesSpec)

/-- 'laws.FnWholeSweep', WHERE WHAT IT READS IS OF BULK AT MOST 1048576: true; the input reads as it did. -/
def fnWholeSweepUptoRow : OpenClaim := { program := "ytijihchddhikhaa", sum := "f25ff96d59e086da19735d54344d115324988dbd0e1ace7621a5ae93d85bb164", func := "loop.example/tablehouse/laws.FnWholeSweep", spec := "fnWholeSweep", unfollowed := true, recurses := true, apart := false, narrowed := true }
def FnWholeSweepUptoSaid : Prop := fnWholeSweepUptoRow.holds Try.pinned (OpenSpec.upto fnWholeSweepSpec)

/-- 'laws.FnFollowed', WHERE WHAT IT READS IS OF BULK AT MOST 1048576: true; the input reads as it did. -/
def fnFollowedUptoRow : OpenClaim := { program := "ytijihchddhikhaa", sum := "f25ff96d59e086da19735d54344d115324988dbd0e1ace7621a5ae93d85bb164", func := "loop.example/tablehouse/laws.FnFollowed", spec := "fnFollowed", unfollowed := true, recurses := true, apart := false, narrowed := true }
def FnFollowedUptoSaid : Prop := fnFollowedUptoRow.holds Try.pinned (OpenSpec.upto fnFollowedSpec)

/-- 'laws.FnLogRun', WHERE WHAT IT READS IS OF BULK AT MOST 1048576: true; the input reads as it did. -/
def fnLogRunUptoRow : OpenClaim := { program := "ytijihchddhikhaa", sum := "f25ff96d59e086da19735d54344d115324988dbd0e1ace7621a5ae93d85bb164", func := "loop.example/tablehouse/laws.FnLogRun", spec := "fnLogRun", unfollowed := true, recurses := true, apart := false, narrowed := true }
def FnLogRunUptoSaid : Prop := fnLogRunUptoRow.holds Try.pinned (OpenSpec.upto fnLogRunSpec)

/-- 'laws.FnLogCut', WHERE WHAT IT READS IS OF BULK AT MOST 1048576: true; the input reads as it did. -/
def fnLogCutUptoRow : OpenClaim := { program := "ytijihchddhikhaa", sum := "f25ff96d59e086da19735d54344d115324988dbd0e1ace7621a5ae93d85bb164", func := "loop.example/tablehouse/laws.FnLogCut", spec := "fnLogCut", unfollowed := true, recurses := true, apart := false, narrowed := true }
def FnLogCutUptoSaid : Prop := fnLogCutUptoRow.holds Try.pinned (OpenSpec.upto fnLogCutSpec)

/-- 'laws.FnTalliesTurned', WHERE WHAT IT READS IS OF BULK AT MOST 1048576: true; the input reads as it did. -/
def fnTalliesTurnedUptoRow : OpenClaim := { program := "ytijihchddhikhaa", sum := "f25ff96d59e086da19735d54344d115324988dbd0e1ace7621a5ae93d85bb164", func := "loop.example/tablehouse/laws.FnTalliesTurned", spec := "fnTalliesTurned", inPlace := ["slices.overlaps[loop.example/tablehouse/impl.Tally]"], unfollowed := true, recurses := true, apart := false, narrowed := true }
def FnTalliesTurnedUptoSaid : Prop := fnTalliesTurnedUptoRow.holds Try.pinned (OpenSpec.upto fnTalliesTurnedSpec)

/-- 'laws.FnHouseOk', WHERE WHAT IT READS IS OF BULK AT MOST 1048576: true; the input reads as it did. -/
def fnHouseOkUptoRow : OpenClaim := { program := "ytijihchddhikhaa", sum := "f25ff96d59e086da19735d54344d115324988dbd0e1ace7621a5ae93d85bb164", func := "loop.example/tablehouse/laws.FnHouseOk", spec := "fnHouseOk", unfollowed := true, recurses := true, apart := false, narrowed := true }
def FnHouseOkUptoSaid : Prop := fnHouseOkUptoRow.holds Try.pinned (OpenSpec.upto fnHouseOkSpec)

/-- 'laws.FnBeside', WHERE WHAT IT READS IS OF BULK AT MOST 1048576: true; the input reads as it did. -/
def fnBesideUptoRow : OpenClaim := { program := "ytijihchddhikhaa", sum := "f25ff96d59e086da19735d54344d115324988dbd0e1ace7621a5ae93d85bb164", func := "loop.example/tablehouse/laws.FnBeside", spec := "fnBeside", unfollowed := true, recurses := true, apart := false, narrowed := true }
def FnBesideUptoSaid : Prop := fnBesideUptoRow.holds Try.pinned (OpenSpec.upto fnBesideSpec)

/-- 'laws.FnEntryFrom', WHERE WHAT IT READS IS OF BULK AT MOST 1048576: true; the input reads as it did. -/
def fnEntryFromUptoRow : OpenClaim := { program := "ytijihchddhikhaa", sum := "f25ff96d59e086da19735d54344d115324988dbd0e1ace7621a5ae93d85bb164", func := "loop.example/tablehouse/laws.FnEntryFrom", spec := "fnEntryFrom", unfollowed := true, recurses := true, apart := false, narrowed := true }
def FnEntryFromUptoSaid : Prop := fnEntryFromUptoRow.holds Try.pinned (OpenSpec.upto fnEntryFromSpec)

/-- 'laws.FnLogFrom', WHERE WHAT IT READS IS OF BULK AT MOST 1048576: true; the input reads as it did. -/
def fnLogFromUptoRow : OpenClaim := { program := "ytijihchddhikhaa", sum := "f25ff96d59e086da19735d54344d115324988dbd0e1ace7621a5ae93d85bb164", func := "loop.example/tablehouse/laws.FnLogFrom", spec := "fnLogFrom", unfollowed := true, recurses := true, apart := false, narrowed := true }
def FnLogFromUptoSaid : Prop := fnLogFromUptoRow.holds Try.pinned (OpenSpec.upto fnLogFromSpec)

/-- 'laws.FnLockWaits', WHERE WHAT IT READS IS OF BULK AT MOST 1048576: true; the input reads as it did. -/
def fnLockWaitsUptoRow : OpenClaim := { program := "ytijihchddhikhaa", sum := "f25ff96d59e086da19735d54344d115324988dbd0e1ace7621a5ae93d85bb164", func := "loop.example/tablehouse/laws.FnLockWaits", spec := "fnLockWaits", unfollowed := true, recurses := true, apart := false, narrowed := true }
def FnLockWaitsUptoSaid : Prop := fnLockWaitsUptoRow.holds Try.pinned (OpenSpec.upto fnLockWaitsSpec)

end Rows
end Go.Proofs.Ytijihchddhikhaa
