/-
  No cell of these rows narrows 'for every input' (looked for: loops, veiled, ifaces, maps, wideKeys, modest, calm, conditions, laid).
  DERIVED. THE GIVEN ROWS OF THIS SEAT. 9 by the template 'for every input the law returns true; each argument reads behind the call as it read before'; 0 by the template 'total and deterministic' (their statements: YtkgmomocjkmipaaTotals.lean).
  GIVEN WITH THE SEED: the statements are not yours to turn. If you find one false, say at which input.
  Laid BY PROGRAM, IN A SANDBOX (cutbox-rows.mjs): the forced cells as the released guide's own fill.sh prints them over the translation af776edd84eebfc3… (all of the seat's roots in one cut). By AI agents, Wed Nov 11 2026. No macro, syntax, notation, axiom, sorry.
-/
import Derived.Test.YtkgmomocjkmipaaChecked
import GoSem.Claim
import GoSem.ClaimJoined
import GoSem.ClaimMapViews
import Derived.JoinedTies
import Derived.KernelRfl
namespace Go.Proofs.Ytkgmomocjkmipaa
/- THE CELL 'sum', in the pinned program and in every row, IS THE sha256 OF THE DUMP (.gsa) THAT YtkgmomocjkmipaaProg.lean LOADS. Nothing in Lean hashes anything: it is a label: what it is worth is what the hold of that sum in a sandbox is worth. -/
noncomputable def Try.pinned : Pinned := { name := "ytkgmomocjkmipaa", sum := "af776edd84eebfc3db517d17c727c8b30f903e4d71946df055e86515ff4ec2a3", checked := Try.checked }
namespace Rows
def none {H : Type} : Left H := { results := [], args := [] }

/-- 'laws.FnExactClosureNew': WHATEVER THE INPUT: true; the input reads as it did. -/
def fnExactClosureNewSpec : ChangeSpec := { name := "fnExactClosureNew", fn := fun _ => fun
  | [d] => { results := [.lit (.bool true)], args := [d] }
  | _ => none }
def fnExactClosureNewRow : OpenClaim := { program := "ytkgmomocjkmipaa", sum := "af776edd84eebfc3db517d17c727c8b30f903e4d71946df055e86515ff4ec2a3", func := "loop.example/tablehouse/laws.FnExactClosureNew", spec := "fnExactClosureNew", unfollowed := true, recurses := true, apart := false }
def FnExactClosureNewSaid : Prop := fnExactClosureNewRow.holds Try.pinned (OpenSpec.ofChange fnExactClosureNewSpec)

/-- ITS FALSE NEIGHBOUR: 'it returns false'. Refute it at one input. -/
def fnExactClosureNewWrong : ChangeSpec := { name := "fnExactClosureNew", fn := fun _ => fun
  | [d] => { results := [.lit (.bool false)], args := [d] }
  | _ => none }
def FnExactClosureNewWrongFalsely : Prop := fnExactClosureNewRow.holds Try.pinned (OpenSpec.ofChange fnExactClosureNewWrong)

/-- 'laws.FnExactClosureMore': WHATEVER THE INPUT: true; the input reads as it did. -/
def fnExactClosureMoreSpec : ChangeSpec := { name := "fnExactClosureMore", fn := fun _ => fun
  | [d1, d2] => { results := [.lit (.bool true)], args := [d1, d2] }
  | _ => none }
def fnExactClosureMoreRow : OpenClaim := { program := "ytkgmomocjkmipaa", sum := "af776edd84eebfc3db517d17c727c8b30f903e4d71946df055e86515ff4ec2a3", func := "loop.example/tablehouse/laws.FnExactClosureMore", spec := "fnExactClosureMore", unfollowed := true, recurses := true, apart := false }
def FnExactClosureMoreSaid : Prop := fnExactClosureMoreRow.holds Try.pinned (OpenSpec.ofChange fnExactClosureMoreSpec)

/-- ITS FALSE NEIGHBOUR: 'it returns false'. Refute it at one input. -/
def fnExactClosureMoreWrong : ChangeSpec := { name := "fnExactClosureMore", fn := fun _ => fun
  | [d1, d2] => { results := [.lit (.bool false)], args := [d1, d2] }
  | _ => none }
def FnExactClosureMoreWrongFalsely : Prop := fnExactClosureMoreRow.holds Try.pinned (OpenSpec.ofChange fnExactClosureMoreWrong)

/-- 'laws.FnClosureNew': WHATEVER THE INPUT: true; the input reads as it did. -/
def fnClosureNewSpec : ChangeSpec := { name := "fnClosureNew", fn := fun _ => fun
  | [d] => { results := [.lit (.bool true)], args := [d] }
  | _ => none }
def fnClosureNewRow : OpenClaim := { program := "ytkgmomocjkmipaa", sum := "af776edd84eebfc3db517d17c727c8b30f903e4d71946df055e86515ff4ec2a3", func := "loop.example/tablehouse/laws.FnClosureNew", spec := "fnClosureNew", unfollowed := true, recurses := true, apart := false }
def FnClosureNewSaid : Prop := fnClosureNewRow.holds Try.pinned (OpenSpec.ofChange fnClosureNewSpec)

/-- ITS FALSE NEIGHBOUR: 'it returns false'. Refute it at one input. -/
def fnClosureNewWrong : ChangeSpec := { name := "fnClosureNew", fn := fun _ => fun
  | [d] => { results := [.lit (.bool false)], args := [d] }
  | _ => none }
def FnClosureNewWrongFalsely : Prop := fnClosureNewRow.holds Try.pinned (OpenSpec.ofChange fnClosureNewWrong)

/-- 'laws.FnClosureMore': WHATEVER THE INPUT: true; the input reads as it did. -/
def fnClosureMoreSpec : ChangeSpec := { name := "fnClosureMore", fn := fun _ => fun
  | [d] => { results := [.lit (.bool true)], args := [d] }
  | _ => none }
def fnClosureMoreRow : OpenClaim := { program := "ytkgmomocjkmipaa", sum := "af776edd84eebfc3db517d17c727c8b30f903e4d71946df055e86515ff4ec2a3", func := "loop.example/tablehouse/laws.FnClosureMore", spec := "fnClosureMore", unfollowed := true, recurses := true, apart := false }
def FnClosureMoreSaid : Prop := fnClosureMoreRow.holds Try.pinned (OpenSpec.ofChange fnClosureMoreSpec)

/-- ITS FALSE NEIGHBOUR: 'it returns false'. Refute it at one input. -/
def fnClosureMoreWrong : ChangeSpec := { name := "fnClosureMore", fn := fun _ => fun
  | [d] => { results := [.lit (.bool false)], args := [d] }
  | _ => none }
def FnClosureMoreWrongFalsely : Prop := fnClosureMoreRow.holds Try.pinned (OpenSpec.ofChange fnClosureMoreWrong)

/-- 'laws.FnWholeClosure': WHATEVER THE INPUT: true; the input reads as it did. -/
def fnWholeClosureSpec : ChangeSpec := { name := "fnWholeClosure", fn := fun _ => fun
  | [d] => { results := [.lit (.bool true)], args := [d] }
  | _ => none }
def fnWholeClosureRow : OpenClaim := { program := "ytkgmomocjkmipaa", sum := "af776edd84eebfc3db517d17c727c8b30f903e4d71946df055e86515ff4ec2a3", func := "loop.example/tablehouse/laws.FnWholeClosure", spec := "fnWholeClosure", unfollowed := true, recurses := true, apart := false }
def FnWholeClosureSaid : Prop := fnWholeClosureRow.holds Try.pinned (OpenSpec.ofChange fnWholeClosureSpec)

/-- ITS FALSE NEIGHBOUR: 'it returns false'. Refute it at one input. -/
def fnWholeClosureWrong : ChangeSpec := { name := "fnWholeClosure", fn := fun _ => fun
  | [d] => { results := [.lit (.bool false)], args := [d] }
  | _ => none }
def FnWholeClosureWrongFalsely : Prop := fnWholeClosureRow.holds Try.pinned (OpenSpec.ofChange fnWholeClosureWrong)

/-- 'laws.FnLogFrom': WHATEVER THE INPUT: true; the input reads as it did. -/
def fnLogFromSpec : ChangeSpec := { name := "fnLogFrom", fn := fun _ => fun
  | [d] => { results := [.lit (.bool true)], args := [d] }
  | _ => none }
def fnLogFromRow : OpenClaim := { program := "ytkgmomocjkmipaa", sum := "af776edd84eebfc3db517d17c727c8b30f903e4d71946df055e86515ff4ec2a3", func := "loop.example/tablehouse/laws.FnLogFrom", spec := "fnLogFrom", unfollowed := true, recurses := true, apart := false }
def FnLogFromSaid : Prop := fnLogFromRow.holds Try.pinned (OpenSpec.ofChange fnLogFromSpec)

/-- ITS FALSE NEIGHBOUR: 'it returns false'. Refute it at one input. -/
def fnLogFromWrong : ChangeSpec := { name := "fnLogFrom", fn := fun _ => fun
  | [d] => { results := [.lit (.bool false)], args := [d] }
  | _ => none }
def FnLogFromWrongFalsely : Prop := fnLogFromRow.holds Try.pinned (OpenSpec.ofChange fnLogFromWrong)

/-- 'laws.FnExactTalliesOf': WHATEVER THE INPUT: true; the input reads as it did. -/
def fnExactTalliesOfSpec : ChangeSpec := { name := "fnExactTalliesOf", fn := fun _ => fun
  | [d] => { results := [.lit (.bool true)], args := [d] }
  | _ => none }
def fnExactTalliesOfRow : OpenClaim := { program := "ytkgmomocjkmipaa", sum := "af776edd84eebfc3db517d17c727c8b30f903e4d71946df055e86515ff4ec2a3", func := "loop.example/tablehouse/laws.FnExactTalliesOf", spec := "fnExactTalliesOf", inPlace := ["slices.overlaps[loop.example/tablehouse/impl.Tally]"], unfollowed := true, recurses := true, apart := false }
def FnExactTalliesOfSaid : Prop := fnExactTalliesOfRow.holds Try.pinned (OpenSpec.ofChange fnExactTalliesOfSpec)

/-- ITS FALSE NEIGHBOUR: 'it returns false'. Refute it at one input. -/
def fnExactTalliesOfWrong : ChangeSpec := { name := "fnExactTalliesOf", fn := fun _ => fun
  | [d] => { results := [.lit (.bool false)], args := [d] }
  | _ => none }
def FnExactTalliesOfWrongFalsely : Prop := fnExactTalliesOfRow.holds Try.pinned (OpenSpec.ofChange fnExactTalliesOfWrong)

/-- 'laws.FnExactLogRun': WHATEVER THE INPUT: true; the input reads as it did. -/
def fnExactLogRunSpec : ChangeSpec := { name := "fnExactLogRun", fn := fun _ => fun
  | [d] => { results := [.lit (.bool true)], args := [d] }
  | _ => none }
def fnExactLogRunRow : OpenClaim := { program := "ytkgmomocjkmipaa", sum := "af776edd84eebfc3db517d17c727c8b30f903e4d71946df055e86515ff4ec2a3", func := "loop.example/tablehouse/laws.FnExactLogRun", spec := "fnExactLogRun", unfollowed := true, recurses := true, apart := false }
def FnExactLogRunSaid : Prop := fnExactLogRunRow.holds Try.pinned (OpenSpec.ofChange fnExactLogRunSpec)

/-- ITS FALSE NEIGHBOUR: 'it returns false'. Refute it at one input. -/
def fnExactLogRunWrong : ChangeSpec := { name := "fnExactLogRun", fn := fun _ => fun
  | [d] => { results := [.lit (.bool false)], args := [d] }
  | _ => none }
def FnExactLogRunWrongFalsely : Prop := fnExactLogRunRow.holds Try.pinned (OpenSpec.ofChange fnExactLogRunWrong)

/-- 'laws.FnExactWrittenAt': WHATEVER THE INPUT: true; the input reads as it did. -/
def fnExactWrittenAtSpec : ChangeSpec := { name := "fnExactWrittenAt", fn := fun _ => fun
  | [d1, d2, d3] => { results := [.lit (.bool true)], args := [d1, d2, d3] }
  | _ => none }
def fnExactWrittenAtRow : OpenClaim := { program := "ytkgmomocjkmipaa", sum := "af776edd84eebfc3db517d17c727c8b30f903e4d71946df055e86515ff4ec2a3", func := "loop.example/tablehouse/laws.FnExactWrittenAt", spec := "fnExactWrittenAt", unfollowed := true, recurses := true, apart := false }
def FnExactWrittenAtSaid : Prop := fnExactWrittenAtRow.holds Try.pinned (OpenSpec.ofChange fnExactWrittenAtSpec)

/-- ITS FALSE NEIGHBOUR: 'it returns false'. Refute it at one input. -/
def fnExactWrittenAtWrong : ChangeSpec := { name := "fnExactWrittenAt", fn := fun _ => fun
  | [d1, d2, d3] => { results := [.lit (.bool false)], args := [d1, d2, d3] }
  | _ => none }
def FnExactWrittenAtWrongFalsely : Prop := fnExactWrittenAtRow.holds Try.pinned (OpenSpec.ofChange fnExactWrittenAtWrong)

/- THE SECOND FORM. 'bulk': how many values and letters a reading holds, each counted each time it is reached (what is shared counts as often as it is met; a slice's spare places count too). A statement '..UptoSaid' is the law's where the arguments, and the package variables that the reading takes, are together of bulk at most 1048576: NARROWER than '..Said'. Prove '..Said' where nothing that the law and all that it calls make is longer than what came in: it says more and counts as full. Else prove '..UptoSaid'. A law counts once. -/
mutual
def uptoBulk {H : Type} : DataW H → Nat
  | .lit (.string bytes) => bytes.length + 1
  | .lit _ => 1
  | .nil => 1
  | .ptr d => uptoBulk d + 1
  | .slice elems spare => uptoBulkAll elems + uptoBulkAll spare + 1
  | .agg parts => uptoBulkAll parts + 1
  | .iface _ d => uptoBulk d + 1
  | .map entries => uptoBulkEntries entries + 1
  | .held _ => 1
def uptoBulkAll {H : Type} : List (DataW H) → Nat
  | [] => 0
  | d :: r => uptoBulk d + uptoBulkAll r
def uptoBulkEntries {H : Type} : List (Lit × DataW H) → Nat
  | [] => 0
  | x :: r => uptoBulkEntry x + uptoBulkEntries r
def uptoBulkEntry {H : Type} : Lit × DataW H → Nat
  | (.string bytes, d) => bytes.length + uptoBulk d + 1
  | (_, d) => uptoBulk d + 1
 end
def uptoSmall : (H : Type) → List (DataW H) → Bool := fun _ ds => decide (uptoBulkAll ds ≤ 1048576)
def OpenSpec.upto (s : _root_.Go.ChangeSpec) : _root_.Go.OpenSpec := { _root_.Go.OpenSpec.ofChange s with cond := some uptoSmall }

/-- 'laws.FnExactClosureNew', WHERE WHAT IT READS IS OF BULK AT MOST 1048576: true; the input reads as it did. -/
def fnExactClosureNewUptoRow : OpenClaim := { program := "ytkgmomocjkmipaa", sum := "af776edd84eebfc3db517d17c727c8b30f903e4d71946df055e86515ff4ec2a3", func := "loop.example/tablehouse/laws.FnExactClosureNew", spec := "fnExactClosureNew", unfollowed := true, recurses := true, apart := false, narrowed := true }
def FnExactClosureNewUptoSaid : Prop := fnExactClosureNewUptoRow.holds Try.pinned (OpenSpec.upto fnExactClosureNewSpec)

/-- 'laws.FnExactClosureMore', WHERE WHAT IT READS IS OF BULK AT MOST 1048576: true; the input reads as it did. -/
def fnExactClosureMoreUptoRow : OpenClaim := { program := "ytkgmomocjkmipaa", sum := "af776edd84eebfc3db517d17c727c8b30f903e4d71946df055e86515ff4ec2a3", func := "loop.example/tablehouse/laws.FnExactClosureMore", spec := "fnExactClosureMore", unfollowed := true, recurses := true, apart := false, narrowed := true }
def FnExactClosureMoreUptoSaid : Prop := fnExactClosureMoreUptoRow.holds Try.pinned (OpenSpec.upto fnExactClosureMoreSpec)

/-- 'laws.FnClosureNew', WHERE WHAT IT READS IS OF BULK AT MOST 1048576: true; the input reads as it did. -/
def fnClosureNewUptoRow : OpenClaim := { program := "ytkgmomocjkmipaa", sum := "af776edd84eebfc3db517d17c727c8b30f903e4d71946df055e86515ff4ec2a3", func := "loop.example/tablehouse/laws.FnClosureNew", spec := "fnClosureNew", unfollowed := true, recurses := true, apart := false, narrowed := true }
def FnClosureNewUptoSaid : Prop := fnClosureNewUptoRow.holds Try.pinned (OpenSpec.upto fnClosureNewSpec)

/-- 'laws.FnClosureMore', WHERE WHAT IT READS IS OF BULK AT MOST 1048576: true; the input reads as it did. -/
def fnClosureMoreUptoRow : OpenClaim := { program := "ytkgmomocjkmipaa", sum := "af776edd84eebfc3db517d17c727c8b30f903e4d71946df055e86515ff4ec2a3", func := "loop.example/tablehouse/laws.FnClosureMore", spec := "fnClosureMore", unfollowed := true, recurses := true, apart := false, narrowed := true }
def FnClosureMoreUptoSaid : Prop := fnClosureMoreUptoRow.holds Try.pinned (OpenSpec.upto fnClosureMoreSpec)

/-- 'laws.FnWholeClosure', WHERE WHAT IT READS IS OF BULK AT MOST 1048576: true; the input reads as it did. -/
def fnWholeClosureUptoRow : OpenClaim := { program := "ytkgmomocjkmipaa", sum := "af776edd84eebfc3db517d17c727c8b30f903e4d71946df055e86515ff4ec2a3", func := "loop.example/tablehouse/laws.FnWholeClosure", spec := "fnWholeClosure", unfollowed := true, recurses := true, apart := false, narrowed := true }
def FnWholeClosureUptoSaid : Prop := fnWholeClosureUptoRow.holds Try.pinned (OpenSpec.upto fnWholeClosureSpec)

/-- 'laws.FnLogFrom', WHERE WHAT IT READS IS OF BULK AT MOST 1048576: true; the input reads as it did. -/
def fnLogFromUptoRow : OpenClaim := { program := "ytkgmomocjkmipaa", sum := "af776edd84eebfc3db517d17c727c8b30f903e4d71946df055e86515ff4ec2a3", func := "loop.example/tablehouse/laws.FnLogFrom", spec := "fnLogFrom", unfollowed := true, recurses := true, apart := false, narrowed := true }
def FnLogFromUptoSaid : Prop := fnLogFromUptoRow.holds Try.pinned (OpenSpec.upto fnLogFromSpec)

/-- 'laws.FnExactTalliesOf', WHERE WHAT IT READS IS OF BULK AT MOST 1048576: true; the input reads as it did. -/
def fnExactTalliesOfUptoRow : OpenClaim := { program := "ytkgmomocjkmipaa", sum := "af776edd84eebfc3db517d17c727c8b30f903e4d71946df055e86515ff4ec2a3", func := "loop.example/tablehouse/laws.FnExactTalliesOf", spec := "fnExactTalliesOf", inPlace := ["slices.overlaps[loop.example/tablehouse/impl.Tally]"], unfollowed := true, recurses := true, apart := false, narrowed := true }
def FnExactTalliesOfUptoSaid : Prop := fnExactTalliesOfUptoRow.holds Try.pinned (OpenSpec.upto fnExactTalliesOfSpec)

/-- 'laws.FnExactLogRun', WHERE WHAT IT READS IS OF BULK AT MOST 1048576: true; the input reads as it did. -/
def fnExactLogRunUptoRow : OpenClaim := { program := "ytkgmomocjkmipaa", sum := "af776edd84eebfc3db517d17c727c8b30f903e4d71946df055e86515ff4ec2a3", func := "loop.example/tablehouse/laws.FnExactLogRun", spec := "fnExactLogRun", unfollowed := true, recurses := true, apart := false, narrowed := true }
def FnExactLogRunUptoSaid : Prop := fnExactLogRunUptoRow.holds Try.pinned (OpenSpec.upto fnExactLogRunSpec)

/-- 'laws.FnExactWrittenAt', WHERE WHAT IT READS IS OF BULK AT MOST 1048576: true; the input reads as it did. -/
def fnExactWrittenAtUptoRow : OpenClaim := { program := "ytkgmomocjkmipaa", sum := "af776edd84eebfc3db517d17c727c8b30f903e4d71946df055e86515ff4ec2a3", func := "loop.example/tablehouse/laws.FnExactWrittenAt", spec := "fnExactWrittenAt", unfollowed := true, recurses := true, apart := false, narrowed := true }
def FnExactWrittenAtUptoSaid : Prop := fnExactWrittenAtUptoRow.holds Try.pinned (OpenSpec.upto fnExactWrittenAtSpec)

end Rows
end Go.Proofs.Ytkgmomocjkmipaa
