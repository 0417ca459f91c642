/-
  DERIVED. GIVEN WITH THE SEED: THE CARDS: each row of YtdkpmckpcejceaaDoorRows.lean that lists a variable, with what it lists TIED to the program's text (the seventh form; the later family's looks); each row that meets fmt, with fmt's text TOLD by the authors' own Lean function (tested against real Go, not proved from fmt's source: count such statements apart). THE CARD IS WHAT COUNTS. Prove the row's statement (the work); the ties are given (YtdkpmckpcejceaaDoorTie.lean); close each card by the builder's one call (the guide's Derived/Test/ToyasCard.lean, 'card_holds'). Laid BY PROGRAM, IN A SANDBOX (cutbox-door.mjs). By AI agents, Wed Nov 11 2026. No macro, syntax, notation, axiom, sorry.
-/
import Derived.Test.YtdkpmckpcejceaaDoorRows
import GoSem.ClaimSeven
namespace Go.Proofs.YtdkpmckpcejceaaDoor
namespace Rows

/-- THE TIED CARD OF 'laws.FnValueText'. -/
def fnValueTextCard : Claim7 := { stood := { row := fnValueTextRow, standIns := [], harness := (true, "6d95743c07661d536d80899c259b9adec83c4cd28058740fb3961cc8d3eb4e16"), looks := true }, kinds := [], alts := [], laidByText := true, laidKinds := [.data, .data, .data, .sentinel, .sentinel], laidTests := true, laidLooks := .later }
def FnValueTextCardSaid : Prop := Claim7.holds Tryd.pinned (.plain (OpenSpec.ofChange fnValueTextSpec)) fnValueTextCard

/-- THE TIED CARD OF 'laws.FnValueRead'. -/
def fnValueReadCard : Claim7 := { stood := { row := fnValueReadRow, standIns := [], harness := (true, "6d95743c07661d536d80899c259b9adec83c4cd28058740fb3961cc8d3eb4e16"), looks := true }, kinds := [], alts := [], laidByText := true, laidKinds := [.data, .data, .data, .sentinel, .sentinel], laidTests := true, laidLooks := .later }
def FnValueReadCardSaid : Prop := Claim7.holds Tryd.pinned (.plain (OpenSpec.ofChange fnValueReadSpec)) fnValueReadCard

/-- THE TIED CARD OF 'laws.FnExactValueRead'. -/
def fnExactValueReadCard : Claim7 := { stood := { row := fnExactValueReadRow, standIns := [], harness := (true, "6d95743c07661d536d80899c259b9adec83c4cd28058740fb3961cc8d3eb4e16"), looks := true }, kinds := [], alts := [], laidByText := true, laidKinds := [.data, .data, .data, .sentinel, .sentinel], laidTests := true, laidLooks := .later }
def FnExactValueReadCardSaid : Prop := Claim7.holds Tryd.pinned (.plain (OpenSpec.ofChange fnExactValueReadSpec)) fnExactValueReadCard

/-- THE SECOND FORM's CARD OF 'laws.FnValueText'. -/
def fnValueTextUptoCard : Claim7 := { stood := { row := fnValueTextUptoRow, standIns := [], harness := (true, "6d95743c07661d536d80899c259b9adec83c4cd28058740fb3961cc8d3eb4e16"), looks := true }, kinds := [], alts := [], laidByText := true, laidKinds := [.data, .data, .data, .sentinel, .sentinel], laidTests := true, laidLooks := .later }
def FnValueTextUptoCardSaid : Prop := Claim7.holds Tryd.pinned (.plain (OpenSpec.upto fnValueTextSpec)) fnValueTextUptoCard

/-- THE SECOND FORM's CARD OF 'laws.FnValueRead'. -/
def fnValueReadUptoCard : Claim7 := { stood := { row := fnValueReadUptoRow, standIns := [], harness := (true, "6d95743c07661d536d80899c259b9adec83c4cd28058740fb3961cc8d3eb4e16"), looks := true }, kinds := [], alts := [], laidByText := true, laidKinds := [.data, .data, .data, .sentinel, .sentinel], laidTests := true, laidLooks := .later }
def FnValueReadUptoCardSaid : Prop := Claim7.holds Tryd.pinned (.plain (OpenSpec.upto fnValueReadSpec)) fnValueReadUptoCard

/-- THE SECOND FORM's CARD OF 'laws.FnExactValueRead'. -/
def fnExactValueReadUptoCard : Claim7 := { stood := { row := fnExactValueReadUptoRow, standIns := [], harness := (true, "6d95743c07661d536d80899c259b9adec83c4cd28058740fb3961cc8d3eb4e16"), looks := true }, kinds := [], alts := [], laidByText := true, laidKinds := [.data, .data, .data, .sentinel, .sentinel], laidTests := true, laidLooks := .later }
def FnExactValueReadUptoCardSaid : Prop := Claim7.holds Tryd.pinned (.plain (OpenSpec.upto fnExactValueReadSpec)) fnExactValueReadUptoCard
end Rows
end Go.Proofs.YtdkpmckpcejceaaDoor
