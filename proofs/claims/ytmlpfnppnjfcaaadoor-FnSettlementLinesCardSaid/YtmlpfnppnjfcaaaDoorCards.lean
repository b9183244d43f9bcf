/-
  DERIVED. GIVEN WITH THE SEED: THE CARDS: each row of YtmlpfnppnjfcaaaDoorRows.lean that lists a variable, with what it lists TIED to the program's text (the seventh form; the later family's looks); each row that meets fmt, with fmt's text TOLD by the authors' own Lean function (tested against real Go, not proved from fmt's source: count such statements apart). THE CARD IS WHAT COUNTS. Prove the row's statement (the work); the ties are given (YtmlpfnppnjfcaaaDoorTie.lean); close each card by the builder's one call (the guide's Derived/Test/ToyasCard.lean, 'card_holds'). Laid BY PROGRAM, IN A SANDBOX (cutbox-door.mjs). By AI agents, Wed Nov 11 2026. No macro, syntax, notation, axiom, sorry.
-/
import Derived.Test.YtmlpfnppnjfcaaaDoorRows
import GoSem.ClaimSeven
namespace Go.Proofs.YtmlpfnppnjfcaaaDoor
namespace Rows

/-- THE TIED CARD OF 'laws.FnSettlementLines'. -/
def fnSettlementLinesCard : Claim7 := { stood := { row := fnSettlementLinesRow, standIns := [], harness := (true, "d593f865ac1565cf33825f54d9212ca7ca2c679e15a2ff57dcddaad9fbbd42c7"), looks := false }, kinds := [], alts := [], laidByText := true, laidKinds := [.data, .data, .data], laidTests := true, laidLooks := .later }
def FnSettlementLinesCardSaid : Prop := Claim7.holds Tryd.pinned (.plain (OpenSpec.ofChange fnSettlementLinesSpec)) fnSettlementLinesCard

/-- THE SECOND FORM's CARD OF 'laws.FnSettlementLines'. -/
def fnSettlementLinesUptoCard : Claim7 := { stood := { row := fnSettlementLinesUptoRow, standIns := [], harness := (true, "d593f865ac1565cf33825f54d9212ca7ca2c679e15a2ff57dcddaad9fbbd42c7"), looks := false }, kinds := [], alts := [], laidByText := true, laidKinds := [.data, .data, .data], laidTests := true, laidLooks := .later }
def FnSettlementLinesUptoCardSaid : Prop := Claim7.holds Tryd.pinned (.plain (OpenSpec.upto fnSettlementLinesSpec)) fnSettlementLinesUptoCard
end Rows
end Go.Proofs.YtmlpfnppnjfcaaaDoor
