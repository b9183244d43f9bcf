/-
  DERIVED. GIVEN WITH THE SEED: THE CARDS: each row of YtafgglkmebkeeaaGreatDoorRows.lean that lists a variable, with what it lists TIED to the program's text (the seventh form; the later family's looks); each row that meets fmt, with fmt's text TOLD by the authors' own Lean function (tested against real Go, not proved from fmt's source: count such statements apart). THE CARD IS WHAT COUNTS. Prove the row's statement (the work); the ties are given (YtafgglkmebkeeaaGreatDoorTie.lean); close each card by the builder's one call (the guide's Derived/Test/ToyasCard.lean, 'card_holds'). Laid BY PROGRAM, IN A SANDBOX (cutbox-door.mjs). By AI agents, Wed Nov 11 2026. No macro, syntax, notation, axiom, sorry.
-/
import Derived.Test.YtafgglkmebkeeaaGreatDoorRows
import GoSem.ClaimSeven
namespace Go.Proofs.YtafgglkmebkeeaaGreatDoor
namespace Rows

/-- THE TIED CARD OF 'laws.FnExactFormatSummary'. -/
def fnExactFormatSummaryCard : Claim7 := { stood := { row := fnExactFormatSummaryRow, standIns := [], harness := (true, "210b03809009f0e851db3b214194200b9856a82bc3bdcc0f27ac365ad4c0488b"), looks := false }, kinds := [], alts := [], laidByText := true, laidKinds := [.data, .data, .data], laidTests := true, laidLooks := .later }
def FnExactFormatSummaryCardSaid : Prop := Claim7.holds Tryz.pinned (.plain (OpenSpec.ofChange fnExactFormatSummarySpec)) fnExactFormatSummaryCard

/-- THE TIED CARD OF 'laws.FnExactFormatFlights'. -/
def fnExactFormatFlightsCard : Claim7 := { stood := { row := fnExactFormatFlightsRow, standIns := [], harness := (true, "210b03809009f0e851db3b214194200b9856a82bc3bdcc0f27ac365ad4c0488b"), looks := false }, kinds := [], alts := [], laidByText := true, laidKinds := [.data, .data, .data], laidTests := true, laidLooks := .later }
def FnExactFormatFlightsCardSaid : Prop := Claim7.holds Tryz.pinned (.plain (OpenSpec.ofChange fnExactFormatFlightsSpec)) fnExactFormatFlightsCard

/-- THE SECOND FORM's CARD OF 'laws.FnExactFormatSummary'. -/
def fnExactFormatSummaryUptoCard : Claim7 := { stood := { row := fnExactFormatSummaryUptoRow, standIns := [], harness := (true, "210b03809009f0e851db3b214194200b9856a82bc3bdcc0f27ac365ad4c0488b"), looks := false }, kinds := [], alts := [], laidByText := true, laidKinds := [.data, .data, .data], laidTests := true, laidLooks := .later }
def FnExactFormatSummaryUptoCardSaid : Prop := Claim7.holds Tryz.pinned (.plain (OpenSpec.upto fnExactFormatSummarySpec)) fnExactFormatSummaryUptoCard

/-- THE SECOND FORM's CARD OF 'laws.FnExactFormatFlights'. -/
def fnExactFormatFlightsUptoCard : Claim7 := { stood := { row := fnExactFormatFlightsUptoRow, standIns := [], harness := (true, "210b03809009f0e851db3b214194200b9856a82bc3bdcc0f27ac365ad4c0488b"), looks := false }, kinds := [], alts := [], laidByText := true, laidKinds := [.data, .data, .data], laidTests := true, laidLooks := .later }
def FnExactFormatFlightsUptoCardSaid : Prop := Claim7.holds Tryz.pinned (.plain (OpenSpec.upto fnExactFormatFlightsSpec)) fnExactFormatFlightsUptoCard
end Rows
end Go.Proofs.YtafgglkmebkeeaaGreatDoor
