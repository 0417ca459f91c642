/-
  No cell of these rows narrows 'for every input' (looked for: loops, veiled, ifaces, maps, wideKeys, modest, calm, conditions, laid).
  DERIVED. THE GIVEN ROWS OF THIS SEAT. 9 by the template 'for every input the law returns true; each argument reads behind the call as it read before'; 0 by the template 'total and deterministic' (their statements: YtbaldobhhpigbaaTotals.lean).
  GIVEN WITH THE SEED: the statements are not yours to turn. If you find one false, say at which input.
  Laid BY PROGRAM, IN A SANDBOX (cutbox-rows.mjs): the forced cells as the released guide's own fill.sh prints them over the translation f1a6963e14fdd717… (all of the seat's roots in one cut). By AI agents, Wed Nov 11 2026. No macro, syntax, notation, axiom, sorry.
-/
import Derived.Test.YtbaldobhhpigbaaChecked
import GoSem.Claim
import GoSem.ClaimJoined
import GoSem.ClaimMapViews
import Derived.JoinedTies
import Derived.KernelRfl
namespace Go.Proofs.Ytbaldobhhpigbaa
/- THE CELL 'sum', in the pinned program and in every row, IS THE sha256 OF THE DUMP (.gsa) THAT YtbaldobhhpigbaaProg.lean LOADS. Nothing in Lean hashes anything: it is a label: what it is worth is what the hold of that sum in a sandbox is worth. -/
noncomputable def Try.pinned : Pinned := { name := "ytbaldobhhpigbaa", sum := "f1a6963e14fdd7178a5985d800048563322911f56280b869df0d84b550b05908", checked := Try.checked }
namespace Rows
def none {H : Type} : Left H := { results := [], args := [] }

/-- 'laws.FnHouseOk': WHATEVER THE INPUT: true; the input reads as it did. -/
def fnHouseOkSpec : ChangeSpec := { name := "fnHouseOk", fn := fun _ => fun
  | [d] => { results := [.lit (.bool true)], args := [d] }
  | _ => none }
def fnHouseOkRow : OpenClaim := { program := "ytbaldobhhpigbaa", sum := "f1a6963e14fdd7178a5985d800048563322911f56280b869df0d84b550b05908", func := "loop.example/tablehouse/laws.FnHouseOk", spec := "fnHouseOk", unfollowed := true, recurses := true, apart := false }
def FnHouseOkSaid : Prop := fnHouseOkRow.holds Try.pinned (OpenSpec.ofChange fnHouseOkSpec)

/-- ITS FALSE NEIGHBOUR: 'it returns false'. Refute it at one input. -/
def fnHouseOkWrong : ChangeSpec := { name := "fnHouseOk", fn := fun _ => fun
  | [d] => { results := [.lit (.bool false)], args := [d] }
  | _ => none }
def FnHouseOkWrongFalsely : Prop := fnHouseOkRow.holds Try.pinned (OpenSpec.ofChange fnHouseOkWrong)

/-- 'laws.FnBeside': WHATEVER THE INPUT: true; the input reads as it did. -/
def fnBesideSpec : ChangeSpec := { name := "fnBeside", fn := fun _ => fun
  | [d] => { results := [.lit (.bool true)], args := [d] }
  | _ => none }
def fnBesideRow : OpenClaim := { program := "ytbaldobhhpigbaa", sum := "f1a6963e14fdd7178a5985d800048563322911f56280b869df0d84b550b05908", func := "loop.example/tablehouse/laws.FnBeside", spec := "fnBeside", unfollowed := true, recurses := true, apart := false }
def FnBesideSaid : Prop := fnBesideRow.holds Try.pinned (OpenSpec.ofChange fnBesideSpec)

/-- ITS FALSE NEIGHBOUR: 'it returns false'. Refute it at one input. -/
def fnBesideWrong : ChangeSpec := { name := "fnBeside", fn := fun _ => fun
  | [d] => { results := [.lit (.bool false)], args := [d] }
  | _ => none }
def FnBesideWrongFalsely : Prop := fnBesideRow.holds Try.pinned (OpenSpec.ofChange fnBesideWrong)

/-- 'laws.FnLockWaits': WHATEVER THE INPUT: true; the input reads as it did. -/
def fnLockWaitsSpec : ChangeSpec := { name := "fnLockWaits", fn := fun _ => fun
  | [d] => { results := [.lit (.bool true)], args := [d] }
  | _ => none }
def fnLockWaitsRow : OpenClaim := { program := "ytbaldobhhpigbaa", sum := "f1a6963e14fdd7178a5985d800048563322911f56280b869df0d84b550b05908", func := "loop.example/tablehouse/laws.FnLockWaits", spec := "fnLockWaits", unfollowed := true, recurses := true, apart := false }
def FnLockWaitsSaid : Prop := fnLockWaitsRow.holds Try.pinned (OpenSpec.ofChange fnLockWaitsSpec)

/-- ITS FALSE NEIGHBOUR: 'it returns false'. Refute it at one input. -/
def fnLockWaitsWrong : ChangeSpec := { name := "fnLockWaits", fn := fun _ => fun
  | [d] => { results := [.lit (.bool false)], args := [d] }
  | _ => none }
def FnLockWaitsWrongFalsely : Prop := fnLockWaitsRow.holds Try.pinned (OpenSpec.ofChange fnLockWaitsWrong)

/-- 'laws.FnGroupRows': WHATEVER THE INPUT: true; the input reads as it did. -/
def fnGroupRowsSpec : ChangeSpec := { name := "fnGroupRows", fn := fun _ => fun
  | [d] => { results := [.lit (.bool true)], args := [d] }
  | _ => none }
def fnGroupRowsRow : OpenClaim := { program := "ytbaldobhhpigbaa", sum := "f1a6963e14fdd7178a5985d800048563322911f56280b869df0d84b550b05908", func := "loop.example/tablehouse/laws.FnGroupRows", spec := "fnGroupRows", unfollowed := true, recurses := true, apart := false }
def FnGroupRowsSaid : Prop := fnGroupRowsRow.holds Try.pinned (OpenSpec.ofChange fnGroupRowsSpec)

/-- ITS FALSE NEIGHBOUR: 'it returns false'. Refute it at one input. -/
def fnGroupRowsWrong : ChangeSpec := { name := "fnGroupRows", fn := fun _ => fun
  | [d] => { results := [.lit (.bool false)], args := [d] }
  | _ => none }
def FnGroupRowsWrongFalsely : Prop := fnGroupRowsRow.holds Try.pinned (OpenSpec.ofChange fnGroupRowsWrong)

/-- 'laws.FnExactGroupRows': WHATEVER THE INPUT: true; the input reads as it did. -/
def fnExactGroupRowsSpec : ChangeSpec := { name := "fnExactGroupRows", fn := fun _ => fun
  | [d1, d2, d3, d4, d5] => { results := [.lit (.bool true)], args := [d1, d2, d3, d4, d5] }
  | _ => none }
def fnExactGroupRowsRow : OpenClaim := { program := "ytbaldobhhpigbaa", sum := "f1a6963e14fdd7178a5985d800048563322911f56280b869df0d84b550b05908", func := "loop.example/tablehouse/laws.FnExactGroupRows", spec := "fnExactGroupRows", unfollowed := true, recurses := true, apart := false }
def FnExactGroupRowsSaid : Prop := fnExactGroupRowsRow.holds Try.pinned (OpenSpec.ofChange fnExactGroupRowsSpec)

/-- ITS FALSE NEIGHBOUR: 'it returns false'. Refute it at one input. -/
def fnExactGroupRowsWrong : ChangeSpec := { name := "fnExactGroupRows", fn := fun _ => fun
  | [d1, d2, d3, d4, d5] => { results := [.lit (.bool false)], args := [d1, d2, d3, d4, d5] }
  | _ => none }
def FnExactGroupRowsWrongFalsely : Prop := fnExactGroupRowsRow.holds Try.pinned (OpenSpec.ofChange fnExactGroupRowsWrong)

/-- 'laws.FnInRows': WHATEVER THE INPUT: true; the input reads as it did. -/
def fnInRowsSpec : ChangeSpec := { name := "fnInRows", fn := fun _ => fun
  | [d] => { results := [.lit (.bool true)], args := [d] }
  | _ => none }
def fnInRowsRow : OpenClaim := { program := "ytbaldobhhpigbaa", sum := "f1a6963e14fdd7178a5985d800048563322911f56280b869df0d84b550b05908", func := "loop.example/tablehouse/laws.FnInRows", spec := "fnInRows", unfollowed := true, recurses := true, apart := false }
def FnInRowsSaid : Prop := fnInRowsRow.holds Try.pinned (OpenSpec.ofChange fnInRowsSpec)

/-- ITS FALSE NEIGHBOUR: 'it returns false'. Refute it at one input. -/
def fnInRowsWrong : ChangeSpec := { name := "fnInRows", fn := fun _ => fun
  | [d] => { results := [.lit (.bool false)], args := [d] }
  | _ => none }
def FnInRowsWrongFalsely : Prop := fnInRowsRow.holds Try.pinned (OpenSpec.ofChange fnInRowsWrong)

/-- 'laws.FnMergeJoin': WHATEVER THE INPUT: true; the input reads as it did. -/
def fnMergeJoinSpec : ChangeSpec := { name := "fnMergeJoin", fn := fun _ => fun
  | [d] => { results := [.lit (.bool true)], args := [d] }
  | _ => none }
def fnMergeJoinRow : OpenClaim := { program := "ytbaldobhhpigbaa", sum := "f1a6963e14fdd7178a5985d800048563322911f56280b869df0d84b550b05908", func := "loop.example/tablehouse/laws.FnMergeJoin", spec := "fnMergeJoin", unfollowed := true, recurses := true, apart := false }
def FnMergeJoinSaid : Prop := fnMergeJoinRow.holds Try.pinned (OpenSpec.ofChange fnMergeJoinSpec)

/-- ITS FALSE NEIGHBOUR: 'it returns false'. Refute it at one input. -/
def fnMergeJoinWrong : ChangeSpec := { name := "fnMergeJoin", fn := fun _ => fun
  | [d] => { results := [.lit (.bool false)], args := [d] }
  | _ => none }
def FnMergeJoinWrongFalsely : Prop := fnMergeJoinRow.holds Try.pinned (OpenSpec.ofChange fnMergeJoinWrong)

/-- 'laws.FnWholeRuns': WHATEVER THE INPUT: true; the input reads as it did. -/
def fnWholeRunsSpec : ChangeSpec := { name := "fnWholeRuns", fn := fun _ => fun
  | [d] => { results := [.lit (.bool true)], args := [d] }
  | _ => none }
def fnWholeRunsRow : OpenClaim := { program := "ytbaldobhhpigbaa", sum := "f1a6963e14fdd7178a5985d800048563322911f56280b869df0d84b550b05908", func := "loop.example/tablehouse/laws.FnWholeRuns", spec := "fnWholeRuns", inPlace := ["slices.overlaps[[]loop.example/tablehouse/impl.Value]"], unfollowed := true, recurses := true, apart := false }
def FnWholeRunsSaid : Prop := fnWholeRunsRow.holds Try.pinned (OpenSpec.ofChange fnWholeRunsSpec)

/-- ITS FALSE NEIGHBOUR: 'it returns false'. Refute it at one input. -/
def fnWholeRunsWrong : ChangeSpec := { name := "fnWholeRuns", fn := fun _ => fun
  | [d] => { results := [.lit (.bool false)], args := [d] }
  | _ => none }
def FnWholeRunsWrongFalsely : Prop := fnWholeRunsRow.holds Try.pinned (OpenSpec.ofChange fnWholeRunsWrong)

/-- 'laws.FnWholeSemi': WHATEVER THE INPUT: true; the input reads as it did. -/
def fnWholeSemiSpec : ChangeSpec := { name := "fnWholeSemi", fn := fun _ => fun
  | [d] => { results := [.lit (.bool true)], args := [d] }
  | _ => none }
def fnWholeSemiRow : OpenClaim := { program := "ytbaldobhhpigbaa", sum := "f1a6963e14fdd7178a5985d800048563322911f56280b869df0d84b550b05908", func := "loop.example/tablehouse/laws.FnWholeSemi", spec := "fnWholeSemi", unfollowed := true, recurses := true, apart := false }
def FnWholeSemiSaid : Prop := fnWholeSemiRow.holds Try.pinned (OpenSpec.ofChange fnWholeSemiSpec)

/-- ITS FALSE NEIGHBOUR: 'it returns false'. Refute it at one input. -/
def fnWholeSemiWrong : ChangeSpec := { name := "fnWholeSemi", fn := fun _ => fun
  | [d] => { results := [.lit (.bool false)], args := [d] }
  | _ => none }
def FnWholeSemiWrongFalsely : Prop := fnWholeSemiRow.holds Try.pinned (OpenSpec.ofChange fnWholeSemiWrong)

/- THE SECOND FORM. 'bulk': how many values and letters a reading holds, each counted each time it is reached (what is shared counts as often as it is met; a slice's spare places count too). A statement '..UptoSaid' is the law's where the arguments, and the package variables that the reading takes, are together of bulk at most 1048576: NARROWER than '..Said'. Prove '..Said' where nothing that the law and all that it calls make is longer than what came in: it says more and counts as full. Else prove '..UptoSaid'. A law counts once. -/
mutual
def uptoBulk {H : Type} : DataW H → Nat
  | .lit (.string bytes) => bytes.length + 1
  | .lit _ => 1
  | .nil => 1
  | .ptr d => uptoBulk d + 1
  | .slice elems spare => uptoBulkAll elems + uptoBulkAll spare + 1
  | .agg parts => uptoBulkAll parts + 1
  | .iface _ d => uptoBulk d + 1
  | .map entries => uptoBulkEntries entries + 1
  | .held _ => 1
def uptoBulkAll {H : Type} : List (DataW H) → Nat
  | [] => 0
  | d :: r => uptoBulk d + uptoBulkAll r
def uptoBulkEntries {H : Type} : List (Lit × DataW H) → Nat
  | [] => 0
  | x :: r => uptoBulkEntry x + uptoBulkEntries r
def uptoBulkEntry {H : Type} : Lit × DataW H → Nat
  | (.string bytes, d) => bytes.length + uptoBulk d + 1
  | (_, d) => uptoBulk d + 1
 end
def uptoSmall : (H : Type) → List (DataW H) → Bool := fun _ ds => decide (uptoBulkAll ds ≤ 1048576)
def OpenSpec.upto (s : _root_.Go.ChangeSpec) : _root_.Go.OpenSpec := { _root_.Go.OpenSpec.ofChange s with cond := some uptoSmall }

/-- 'laws.FnHouseOk', WHERE WHAT IT READS IS OF BULK AT MOST 1048576: true; the input reads as it did. -/
def fnHouseOkUptoRow : OpenClaim := { program := "ytbaldobhhpigbaa", sum := "f1a6963e14fdd7178a5985d800048563322911f56280b869df0d84b550b05908", func := "loop.example/tablehouse/laws.FnHouseOk", spec := "fnHouseOk", unfollowed := true, recurses := true, apart := false, narrowed := true }
def FnHouseOkUptoSaid : Prop := fnHouseOkUptoRow.holds Try.pinned (OpenSpec.upto fnHouseOkSpec)

/-- 'laws.FnBeside', WHERE WHAT IT READS IS OF BULK AT MOST 1048576: true; the input reads as it did. -/
def fnBesideUptoRow : OpenClaim := { program := "ytbaldobhhpigbaa", sum := "f1a6963e14fdd7178a5985d800048563322911f56280b869df0d84b550b05908", func := "loop.example/tablehouse/laws.FnBeside", spec := "fnBeside", unfollowed := true, recurses := true, apart := false, narrowed := true }
def FnBesideUptoSaid : Prop := fnBesideUptoRow.holds Try.pinned (OpenSpec.upto fnBesideSpec)

/-- 'laws.FnLockWaits', WHERE WHAT IT READS IS OF BULK AT MOST 1048576: true; the input reads as it did. -/
def fnLockWaitsUptoRow : OpenClaim := { program := "ytbaldobhhpigbaa", sum := "f1a6963e14fdd7178a5985d800048563322911f56280b869df0d84b550b05908", func := "loop.example/tablehouse/laws.FnLockWaits", spec := "fnLockWaits", unfollowed := true, recurses := true, apart := false, narrowed := true }
def FnLockWaitsUptoSaid : Prop := fnLockWaitsUptoRow.holds Try.pinned (OpenSpec.upto fnLockWaitsSpec)

/-- 'laws.FnGroupRows', WHERE WHAT IT READS IS OF BULK AT MOST 1048576: true; the input reads as it did. -/
def fnGroupRowsUptoRow : OpenClaim := { program := "ytbaldobhhpigbaa", sum := "f1a6963e14fdd7178a5985d800048563322911f56280b869df0d84b550b05908", func := "loop.example/tablehouse/laws.FnGroupRows", spec := "fnGroupRows", unfollowed := true, recurses := true, apart := false, narrowed := true }
def FnGroupRowsUptoSaid : Prop := fnGroupRowsUptoRow.holds Try.pinned (OpenSpec.upto fnGroupRowsSpec)

/-- 'laws.FnExactGroupRows', WHERE WHAT IT READS IS OF BULK AT MOST 1048576: true; the input reads as it did. -/
def fnExactGroupRowsUptoRow : OpenClaim := { program := "ytbaldobhhpigbaa", sum := "f1a6963e14fdd7178a5985d800048563322911f56280b869df0d84b550b05908", func := "loop.example/tablehouse/laws.FnExactGroupRows", spec := "fnExactGroupRows", unfollowed := true, recurses := true, apart := false, narrowed := true }
def FnExactGroupRowsUptoSaid : Prop := fnExactGroupRowsUptoRow.holds Try.pinned (OpenSpec.upto fnExactGroupRowsSpec)

/-- 'laws.FnInRows', WHERE WHAT IT READS IS OF BULK AT MOST 1048576: true; the input reads as it did. -/
def fnInRowsUptoRow : OpenClaim := { program := "ytbaldobhhpigbaa", sum := "f1a6963e14fdd7178a5985d800048563322911f56280b869df0d84b550b05908", func := "loop.example/tablehouse/laws.FnInRows", spec := "fnInRows", unfollowed := true, recurses := true, apart := false, narrowed := true }
def FnInRowsUptoSaid : Prop := fnInRowsUptoRow.holds Try.pinned (OpenSpec.upto fnInRowsSpec)

/-- 'laws.FnMergeJoin', WHERE WHAT IT READS IS OF BULK AT MOST 1048576: true; the input reads as it did. -/
def fnMergeJoinUptoRow : OpenClaim := { program := "ytbaldobhhpigbaa", sum := "f1a6963e14fdd7178a5985d800048563322911f56280b869df0d84b550b05908", func := "loop.example/tablehouse/laws.FnMergeJoin", spec := "fnMergeJoin", unfollowed := true, recurses := true, apart := false, narrowed := true }
def FnMergeJoinUptoSaid : Prop := fnMergeJoinUptoRow.holds Try.pinned (OpenSpec.upto fnMergeJoinSpec)

/-- 'laws.FnWholeRuns', WHERE WHAT IT READS IS OF BULK AT MOST 1048576: true; the input reads as it did. -/
def fnWholeRunsUptoRow : OpenClaim := { program := "ytbaldobhhpigbaa", sum := "f1a6963e14fdd7178a5985d800048563322911f56280b869df0d84b550b05908", func := "loop.example/tablehouse/laws.FnWholeRuns", spec := "fnWholeRuns", inPlace := ["slices.overlaps[[]loop.example/tablehouse/impl.Value]"], unfollowed := true, recurses := true, apart := false, narrowed := true }
def FnWholeRunsUptoSaid : Prop := fnWholeRunsUptoRow.holds Try.pinned (OpenSpec.upto fnWholeRunsSpec)

/-- 'laws.FnWholeSemi', WHERE WHAT IT READS IS OF BULK AT MOST 1048576: true; the input reads as it did. -/
def fnWholeSemiUptoRow : OpenClaim := { program := "ytbaldobhhpigbaa", sum := "f1a6963e14fdd7178a5985d800048563322911f56280b869df0d84b550b05908", func := "loop.example/tablehouse/laws.FnWholeSemi", spec := "fnWholeSemi", unfollowed := true, recurses := true, apart := false, narrowed := true }
def FnWholeSemiUptoSaid : Prop := fnWholeSemiUptoRow.holds Try.pinned (OpenSpec.upto fnWholeSemiSpec)

end Rows
end Go.Proofs.Ytbaldobhhpigbaa
