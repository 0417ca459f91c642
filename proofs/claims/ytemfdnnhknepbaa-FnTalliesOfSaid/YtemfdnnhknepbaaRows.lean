/-
  No cell of these rows narrows 'for every input' (looked for: loops, veiled, ifaces, maps, wideKeys, modest, calm, conditions, laid).
  DERIVED. THE GIVEN ROWS OF THIS SEAT. 6 by the template 'for every input the law returns true; each argument reads behind the call as it read before'; 0 by the template 'total and deterministic' (their statements: YtemfdnnhknepbaaTotals.lean).
  GIVEN WITH THE SEED: the statements are not yours to turn. If you find one false, say at which input.
  Laid BY PROGRAM, IN A SANDBOX (cutbox-rows.mjs): the forced cells as the released guide's own fill.sh prints them over the translation 13f41b32549decf9… (all of the seat's roots in one cut). By AI agents, Wed Nov 11 2026. No macro, syntax, notation, axiom, sorry.
-/
import Derived.Test.YtemfdnnhknepbaaChecked
import GoSem.Claim
import GoSem.ClaimJoined
import GoSem.ClaimMapViews
import Derived.JoinedTies
import Derived.KernelRfl
namespace Go.Proofs.Ytemfdnnhknepbaa
/- THE CELL 'sum', in the pinned program and in every row, IS THE sha256 OF THE DUMP (.gsa) THAT YtemfdnnhknepbaaProg.lean LOADS. Nothing in Lean hashes anything: it is a label: what it is worth is what the hold of that sum in a sandbox is worth. -/
noncomputable def Try.pinned : Pinned := { name := "ytemfdnnhknepbaa", sum := "13f41b32549decf9ed688886818893e37df03f971926d6886fcb17ad516ef4ea", checked := Try.checked }
namespace Rows
def none {H : Type} : Left H := { results := [], args := [] }

/-- 'laws.FnSameBag': WHATEVER THE INPUT: true; the input reads as it did. -/
def fnSameBagSpec : ChangeSpec := { name := "fnSameBag", fn := fun _ => fun
  | [d] => { results := [.lit (.bool true)], args := [d] }
  | _ => none }
def fnSameBagRow : OpenClaim := { program := "ytemfdnnhknepbaa", sum := "13f41b32549decf9ed688886818893e37df03f971926d6886fcb17ad516ef4ea", func := "loop.example/tablehouse/laws.FnSameBag", spec := "fnSameBag", inPlace := ["slices.overlaps[[]loop.example/tablehouse/impl.Value]"], unfollowed := true, recurses := true, apart := false }
def FnSameBagSaid : Prop := fnSameBagRow.holds Try.pinned (OpenSpec.ofChange fnSameBagSpec)

/-- ITS FALSE NEIGHBOUR: 'it returns false'. Refute it at one input. -/
def fnSameBagWrong : ChangeSpec := { name := "fnSameBag", fn := fun _ => fun
  | [d] => { results := [.lit (.bool false)], args := [d] }
  | _ => none }
def FnSameBagWrongFalsely : Prop := fnSameBagRow.holds Try.pinned (OpenSpec.ofChange fnSameBagWrong)

/-- 'laws.FnExactGuardsOk': WHATEVER THE INPUT: true; the input reads as it did. -/
def fnExactGuardsOkSpec : ChangeSpec := { name := "fnExactGuardsOk", fn := fun _ => fun
  | [d1, d2] => { results := [.lit (.bool true)], args := [d1, d2] }
  | _ => none }
def fnExactGuardsOkRow : OpenClaim := { program := "ytemfdnnhknepbaa", sum := "13f41b32549decf9ed688886818893e37df03f971926d6886fcb17ad516ef4ea", func := "loop.example/tablehouse/laws.FnExactGuardsOk", spec := "fnExactGuardsOk", unfollowed := true, recurses := true, apart := false }
def FnExactGuardsOkSaid : Prop := fnExactGuardsOkRow.holds Try.pinned (OpenSpec.ofChange fnExactGuardsOkSpec)

/-- ITS FALSE NEIGHBOUR: 'it returns false'. Refute it at one input. -/
def fnExactGuardsOkWrong : ChangeSpec := { name := "fnExactGuardsOk", fn := fun _ => fun
  | [d1, d2] => { results := [.lit (.bool false)], args := [d1, d2] }
  | _ => none }
def FnExactGuardsOkWrongFalsely : Prop := fnExactGuardsOkRow.holds Try.pinned (OpenSpec.ofChange fnExactGuardsOkWrong)

/-- 'laws.FnByColumn': WHATEVER THE INPUT: true; the input reads as it did. -/
def fnByColumnSpec : ChangeSpec := { name := "fnByColumn", fn := fun _ => fun
  | [d] => { results := [.lit (.bool true)], args := [d] }
  | _ => none }
def fnByColumnRow : OpenClaim := { program := "ytemfdnnhknepbaa", sum := "13f41b32549decf9ed688886818893e37df03f971926d6886fcb17ad516ef4ea", func := "loop.example/tablehouse/laws.FnByColumn", spec := "fnByColumn", unfollowed := true, recurses := true, apart := false }
def FnByColumnSaid : Prop := fnByColumnRow.holds Try.pinned (OpenSpec.ofChange fnByColumnSpec)

/-- ITS FALSE NEIGHBOUR: 'it returns false'. Refute it at one input. -/
def fnByColumnWrong : ChangeSpec := { name := "fnByColumn", fn := fun _ => fun
  | [d] => { results := [.lit (.bool false)], args := [d] }
  | _ => none }
def FnByColumnWrongFalsely : Prop := fnByColumnRow.holds Try.pinned (OpenSpec.ofChange fnByColumnWrong)

/-- 'laws.FnTalliesOf': WHATEVER THE INPUT: true; the input reads as it did. -/
def fnTalliesOfSpec : ChangeSpec := { name := "fnTalliesOf", fn := fun _ => fun
  | [d] => { results := [.lit (.bool true)], args := [d] }
  | _ => none }
def fnTalliesOfRow : OpenClaim := { program := "ytemfdnnhknepbaa", sum := "13f41b32549decf9ed688886818893e37df03f971926d6886fcb17ad516ef4ea", func := "loop.example/tablehouse/laws.FnTalliesOf", spec := "fnTalliesOf", inPlace := ["slices.overlaps[loop.example/tablehouse/impl.Tally]", "slices.overlaps[[]loop.example/tablehouse/impl.Value]"], unfollowed := true, recurses := true, apart := false }
def FnTalliesOfSaid : Prop := fnTalliesOfRow.holds Try.pinned (OpenSpec.ofChange fnTalliesOfSpec)

/-- ITS FALSE NEIGHBOUR: 'it returns false'. Refute it at one input. -/
def fnTalliesOfWrong : ChangeSpec := { name := "fnTalliesOf", fn := fun _ => fun
  | [d] => { results := [.lit (.bool false)], args := [d] }
  | _ => none }
def FnTalliesOfWrongFalsely : Prop := fnTalliesOfRow.holds Try.pinned (OpenSpec.ofChange fnTalliesOfWrong)

/-- 'laws.FnRunsMerged': WHATEVER THE INPUT: true; the input reads as it did. -/
def fnRunsMergedSpec : ChangeSpec := { name := "fnRunsMerged", fn := fun _ => fun
  | [d] => { results := [.lit (.bool true)], args := [d] }
  | _ => none }
def fnRunsMergedRow : OpenClaim := { program := "ytemfdnnhknepbaa", sum := "13f41b32549decf9ed688886818893e37df03f971926d6886fcb17ad516ef4ea", func := "loop.example/tablehouse/laws.FnRunsMerged", spec := "fnRunsMerged", inPlace := ["slices.overlaps[[]loop.example/tablehouse/impl.Value]"], unfollowed := true, recurses := true, apart := false }
def FnRunsMergedSaid : Prop := fnRunsMergedRow.holds Try.pinned (OpenSpec.ofChange fnRunsMergedSpec)

/-- ITS FALSE NEIGHBOUR: 'it returns false'. Refute it at one input. -/
def fnRunsMergedWrong : ChangeSpec := { name := "fnRunsMerged", fn := fun _ => fun
  | [d] => { results := [.lit (.bool false)], args := [d] }
  | _ => none }
def FnRunsMergedWrongFalsely : Prop := fnRunsMergedRow.holds Try.pinned (OpenSpec.ofChange fnRunsMergedWrong)

/-- 'laws.FnNeighboursOnce': WHATEVER THE INPUT: true; the input reads as it did. -/
def fnNeighboursOnceSpec : ChangeSpec := { name := "fnNeighboursOnce", fn := fun _ => fun
  | [d] => { results := [.lit (.bool true)], args := [d] }
  | _ => none }
def fnNeighboursOnceRow : OpenClaim := { program := "ytemfdnnhknepbaa", sum := "13f41b32549decf9ed688886818893e37df03f971926d6886fcb17ad516ef4ea", func := "loop.example/tablehouse/laws.FnNeighboursOnce", spec := "fnNeighboursOnce", inPlace := ["slices.overlaps[[]loop.example/tablehouse/impl.Value]"], unfollowed := true, recurses := true, apart := false }
def FnNeighboursOnceSaid : Prop := fnNeighboursOnceRow.holds Try.pinned (OpenSpec.ofChange fnNeighboursOnceSpec)

/-- ITS FALSE NEIGHBOUR: 'it returns false'. Refute it at one input. -/
def fnNeighboursOnceWrong : ChangeSpec := { name := "fnNeighboursOnce", fn := fun _ => fun
  | [d] => { results := [.lit (.bool false)], args := [d] }
  | _ => none }
def FnNeighboursOnceWrongFalsely : Prop := fnNeighboursOnceRow.holds Try.pinned (OpenSpec.ofChange fnNeighboursOnceWrong)

/- THE SECOND FORM. 'bulk': how many values and letters a reading holds, each counted each time it is reached (what is shared counts as often as it is met; a slice's spare places count too). A statement '..UptoSaid' is the law's where the arguments, and the package variables that the reading takes, are together of bulk at most 1048576: NARROWER than '..Said'. Prove '..Said' where nothing that the law and all that it calls make is longer than what came in: it says more and counts as full. Else prove '..UptoSaid'. A law counts once. -/
mutual
def uptoBulk {H : Type} : DataW H → Nat
  | .lit (.string bytes) => bytes.length + 1
  | .lit _ => 1
  | .nil => 1
  | .ptr d => uptoBulk d + 1
  | .slice elems spare => uptoBulkAll elems + uptoBulkAll spare + 1
  | .agg parts => uptoBulkAll parts + 1
  | .iface _ d => uptoBulk d + 1
  | .map entries => uptoBulkEntries entries + 1
  | .held _ => 1
def uptoBulkAll {H : Type} : List (DataW H) → Nat
  | [] => 0
  | d :: r => uptoBulk d + uptoBulkAll r
def uptoBulkEntries {H : Type} : List (Lit × DataW H) → Nat
  | [] => 0
  | x :: r => uptoBulkEntry x + uptoBulkEntries r
def uptoBulkEntry {H : Type} : Lit × DataW H → Nat
  | (.string bytes, d) => bytes.length + uptoBulk d + 1
  | (_, d) => uptoBulk d + 1
 end
def uptoSmall : (H : Type) → List (DataW H) → Bool := fun _ ds => decide (uptoBulkAll ds ≤ 1048576)
def OpenSpec.upto (s : _root_.Go.ChangeSpec) : _root_.Go.OpenSpec := { _root_.Go.OpenSpec.ofChange s with cond := some uptoSmall }

/-- 'laws.FnSameBag', WHERE WHAT IT READS IS OF BULK AT MOST 1048576: true; the input reads as it did. -/
def fnSameBagUptoRow : OpenClaim := { program := "ytemfdnnhknepbaa", sum := "13f41b32549decf9ed688886818893e37df03f971926d6886fcb17ad516ef4ea", func := "loop.example/tablehouse/laws.FnSameBag", spec := "fnSameBag", inPlace := ["slices.overlaps[[]loop.example/tablehouse/impl.Value]"], unfollowed := true, recurses := true, apart := false, narrowed := true }
def FnSameBagUptoSaid : Prop := fnSameBagUptoRow.holds Try.pinned (OpenSpec.upto fnSameBagSpec)

/-- 'laws.FnExactGuardsOk', WHERE WHAT IT READS IS OF BULK AT MOST 1048576: true; the input reads as it did. -/
def fnExactGuardsOkUptoRow : OpenClaim := { program := "ytemfdnnhknepbaa", sum := "13f41b32549decf9ed688886818893e37df03f971926d6886fcb17ad516ef4ea", func := "loop.example/tablehouse/laws.FnExactGuardsOk", spec := "fnExactGuardsOk", unfollowed := true, recurses := true, apart := false, narrowed := true }
def FnExactGuardsOkUptoSaid : Prop := fnExactGuardsOkUptoRow.holds Try.pinned (OpenSpec.upto fnExactGuardsOkSpec)

/-- 'laws.FnByColumn', WHERE WHAT IT READS IS OF BULK AT MOST 1048576: true; the input reads as it did. -/
def fnByColumnUptoRow : OpenClaim := { program := "ytemfdnnhknepbaa", sum := "13f41b32549decf9ed688886818893e37df03f971926d6886fcb17ad516ef4ea", func := "loop.example/tablehouse/laws.FnByColumn", spec := "fnByColumn", unfollowed := true, recurses := true, apart := false, narrowed := true }
def FnByColumnUptoSaid : Prop := fnByColumnUptoRow.holds Try.pinned (OpenSpec.upto fnByColumnSpec)

/-- 'laws.FnTalliesOf', WHERE WHAT IT READS IS OF BULK AT MOST 1048576: true; the input reads as it did. -/
def fnTalliesOfUptoRow : OpenClaim := { program := "ytemfdnnhknepbaa", sum := "13f41b32549decf9ed688886818893e37df03f971926d6886fcb17ad516ef4ea", func := "loop.example/tablehouse/laws.FnTalliesOf", spec := "fnTalliesOf", inPlace := ["slices.overlaps[loop.example/tablehouse/impl.Tally]", "slices.overlaps[[]loop.example/tablehouse/impl.Value]"], unfollowed := true, recurses := true, apart := false, narrowed := true }
def FnTalliesOfUptoSaid : Prop := fnTalliesOfUptoRow.holds Try.pinned (OpenSpec.upto fnTalliesOfSpec)

/-- 'laws.FnRunsMerged', WHERE WHAT IT READS IS OF BULK AT MOST 1048576: true; the input reads as it did. -/
def fnRunsMergedUptoRow : OpenClaim := { program := "ytemfdnnhknepbaa", sum := "13f41b32549decf9ed688886818893e37df03f971926d6886fcb17ad516ef4ea", func := "loop.example/tablehouse/laws.FnRunsMerged", spec := "fnRunsMerged", inPlace := ["slices.overlaps[[]loop.example/tablehouse/impl.Value]"], unfollowed := true, recurses := true, apart := false, narrowed := true }
def FnRunsMergedUptoSaid : Prop := fnRunsMergedUptoRow.holds Try.pinned (OpenSpec.upto fnRunsMergedSpec)

/-- 'laws.FnNeighboursOnce', WHERE WHAT IT READS IS OF BULK AT MOST 1048576: true; the input reads as it did. -/
def fnNeighboursOnceUptoRow : OpenClaim := { program := "ytemfdnnhknepbaa", sum := "13f41b32549decf9ed688886818893e37df03f971926d6886fcb17ad516ef4ea", func := "loop.example/tablehouse/laws.FnNeighboursOnce", spec := "fnNeighboursOnce", inPlace := ["slices.overlaps[[]loop.example/tablehouse/impl.Value]"], unfollowed := true, recurses := true, apart := false, narrowed := true }
def FnNeighboursOnceUptoSaid : Prop := fnNeighboursOnceUptoRow.holds Try.pinned (OpenSpec.upto fnNeighboursOnceSpec)

end Rows
end Go.Proofs.Ytemfdnnhknepbaa
