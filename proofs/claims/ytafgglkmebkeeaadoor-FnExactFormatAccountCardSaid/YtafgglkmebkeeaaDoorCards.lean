/-
  DERIVED. GIVEN WITH THE SEED: THE CARDS: each row of YtafgglkmebkeeaaDoorRows.lean that lists a variable, with what it lists TIED to the program's text (the seventh form; the later family's looks); each row that meets fmt, with fmt's text TOLD by the authors' own Lean function (tested against real Go, not proved from fmt's source: count such statements apart). THE CARD IS WHAT COUNTS. Prove the row's statement (the work); the ties are given (YtafgglkmebkeeaaDoorTie.lean); close each card by the builder's one call (the guide's Derived/Test/ToyasCard.lean, 'card_holds'). Laid BY PROGRAM, IN A SANDBOX (cutbox-door.mjs). By AI agents, Wed Nov 11 2026. No macro, syntax, notation, axiom, sorry.
-/
import Derived.Test.YtafgglkmebkeeaaDoorRows
import GoSem.ClaimSeven
namespace Go.Proofs.YtafgglkmebkeeaaDoor
namespace Rows

/-- THE TIED CARD OF 'laws.FnExactFormatStatement'. -/
def fnExactFormatStatementCard : Claim7 := { stood := { row := fnExactFormatStatementRow, standIns := [], harness := (true, "19c1c15b70af096082ecf11466424d13fc7c2ce6a6691899d647552a19d3c60d"), looks := false }, kinds := [], alts := [], laidByText := true, laidKinds := [.data, .data, .data], laidTests := true, laidLooks := .later }
def FnExactFormatStatementCardSaid : Prop := Claim7.holds Tryd.pinned (.plain (OpenSpec.ofChange fnExactFormatStatementSpec)) fnExactFormatStatementCard

/-- THE TIED CARD OF 'laws.FnExactFormatAccount'. -/
def fnExactFormatAccountCard : Claim7 := { stood := { row := fnExactFormatAccountRow, standIns := [], harness := (true, "19c1c15b70af096082ecf11466424d13fc7c2ce6a6691899d647552a19d3c60d"), looks := false }, kinds := [], alts := [], laidByText := true, laidKinds := [.data, .data, .data], laidTests := true, laidLooks := .later }
def FnExactFormatAccountCardSaid : Prop := Claim7.holds Tryd.pinned (.plain (OpenSpec.ofChange fnExactFormatAccountSpec)) fnExactFormatAccountCard

/-- THE TIED CARD OF 'laws.FnExactFormatFlight'. -/
def fnExactFormatFlightCard : Claim7 := { stood := { row := fnExactFormatFlightRow, standIns := [], harness := (true, "19c1c15b70af096082ecf11466424d13fc7c2ce6a6691899d647552a19d3c60d"), looks := false }, kinds := [], alts := [], laidByText := true, laidKinds := [.data, .data, .data], laidTests := true, laidLooks := .later }
def FnExactFormatFlightCardSaid : Prop := Claim7.holds Tryd.pinned (.plain (OpenSpec.ofChange fnExactFormatFlightSpec)) fnExactFormatFlightCard

/-- THE TIED CARD OF 'laws.FnExactFormatDevice'. -/
def fnExactFormatDeviceCard : Claim7 := { stood := { row := fnExactFormatDeviceRow, standIns := [], harness := (true, "19c1c15b70af096082ecf11466424d13fc7c2ce6a6691899d647552a19d3c60d"), looks := false }, kinds := [], alts := [], laidByText := true, laidKinds := [.data, .data, .data], laidTests := true, laidLooks := .later }
def FnExactFormatDeviceCardSaid : Prop := Claim7.holds Tryd.pinned (.plain (OpenSpec.ofChange fnExactFormatDeviceSpec)) fnExactFormatDeviceCard

/-- THE TIED CARD OF 'laws.FnSettlementLines'. -/
def fnSettlementLinesCard : Claim7 := { stood := { row := fnSettlementLinesRow, standIns := [], harness := (true, "19c1c15b70af096082ecf11466424d13fc7c2ce6a6691899d647552a19d3c60d"), looks := false }, kinds := [], alts := [], laidByText := true, laidKinds := [.data, .data, .data], laidTests := true, laidLooks := .later }
def FnSettlementLinesCardSaid : Prop := Claim7.holds Tryd.pinned (.plain (OpenSpec.ofChange fnSettlementLinesSpec)) fnSettlementLinesCard

/-- THE TIED CARD OF 'laws.FnExactFormatSession'. -/
def fnExactFormatSessionCard : Claim7 := { stood := { row := fnExactFormatSessionRow, standIns := [], harness := (true, "19c1c15b70af096082ecf11466424d13fc7c2ce6a6691899d647552a19d3c60d"), looks := false }, kinds := [], alts := [], laidByText := true, laidKinds := [.data, .data, .data], laidTests := true, laidLooks := .later }
def FnExactFormatSessionCardSaid : Prop := Claim7.holds Tryd.pinned (.plain (OpenSpec.ofChange fnExactFormatSessionSpec)) fnExactFormatSessionCard

/-- THE SECOND FORM's CARD OF 'laws.FnExactFormatStatement'. -/
def fnExactFormatStatementUptoCard : Claim7 := { stood := { row := fnExactFormatStatementUptoRow, standIns := [], harness := (true, "19c1c15b70af096082ecf11466424d13fc7c2ce6a6691899d647552a19d3c60d"), looks := false }, kinds := [], alts := [], laidByText := true, laidKinds := [.data, .data, .data], laidTests := true, laidLooks := .later }
def FnExactFormatStatementUptoCardSaid : Prop := Claim7.holds Tryd.pinned (.plain (OpenSpec.upto fnExactFormatStatementSpec)) fnExactFormatStatementUptoCard

/-- THE SECOND FORM's CARD OF 'laws.FnExactFormatAccount'. -/
def fnExactFormatAccountUptoCard : Claim7 := { stood := { row := fnExactFormatAccountUptoRow, standIns := [], harness := (true, "19c1c15b70af096082ecf11466424d13fc7c2ce6a6691899d647552a19d3c60d"), looks := false }, kinds := [], alts := [], laidByText := true, laidKinds := [.data, .data, .data], laidTests := true, laidLooks := .later }
def FnExactFormatAccountUptoCardSaid : Prop := Claim7.holds Tryd.pinned (.plain (OpenSpec.upto fnExactFormatAccountSpec)) fnExactFormatAccountUptoCard

/-- THE SECOND FORM's CARD OF 'laws.FnExactFormatFlight'. -/
def fnExactFormatFlightUptoCard : Claim7 := { stood := { row := fnExactFormatFlightUptoRow, standIns := [], harness := (true, "19c1c15b70af096082ecf11466424d13fc7c2ce6a6691899d647552a19d3c60d"), looks := false }, kinds := [], alts := [], laidByText := true, laidKinds := [.data, .data, .data], laidTests := true, laidLooks := .later }
def FnExactFormatFlightUptoCardSaid : Prop := Claim7.holds Tryd.pinned (.plain (OpenSpec.upto fnExactFormatFlightSpec)) fnExactFormatFlightUptoCard

/-- THE SECOND FORM's CARD OF 'laws.FnExactFormatDevice'. -/
def fnExactFormatDeviceUptoCard : Claim7 := { stood := { row := fnExactFormatDeviceUptoRow, standIns := [], harness := (true, "19c1c15b70af096082ecf11466424d13fc7c2ce6a6691899d647552a19d3c60d"), looks := false }, kinds := [], alts := [], laidByText := true, laidKinds := [.data, .data, .data], laidTests := true, laidLooks := .later }
def FnExactFormatDeviceUptoCardSaid : Prop := Claim7.holds Tryd.pinned (.plain (OpenSpec.upto fnExactFormatDeviceSpec)) fnExactFormatDeviceUptoCard

/-- THE SECOND FORM's CARD OF 'laws.FnSettlementLines'. -/
def fnSettlementLinesUptoCard : Claim7 := { stood := { row := fnSettlementLinesUptoRow, standIns := [], harness := (true, "19c1c15b70af096082ecf11466424d13fc7c2ce6a6691899d647552a19d3c60d"), looks := false }, kinds := [], alts := [], laidByText := true, laidKinds := [.data, .data, .data], laidTests := true, laidLooks := .later }
def FnSettlementLinesUptoCardSaid : Prop := Claim7.holds Tryd.pinned (.plain (OpenSpec.upto fnSettlementLinesSpec)) fnSettlementLinesUptoCard

/-- THE SECOND FORM's CARD OF 'laws.FnExactFormatSession'. -/
def fnExactFormatSessionUptoCard : Claim7 := { stood := { row := fnExactFormatSessionUptoRow, standIns := [], harness := (true, "19c1c15b70af096082ecf11466424d13fc7c2ce6a6691899d647552a19d3c60d"), looks := false }, kinds := [], alts := [], laidByText := true, laidKinds := [.data, .data, .data], laidTests := true, laidLooks := .later }
def FnExactFormatSessionUptoCardSaid : Prop := Claim7.holds Tryd.pinned (.plain (OpenSpec.upto fnExactFormatSessionSpec)) fnExactFormatSessionUptoCard
end Rows
end Go.Proofs.YtafgglkmebkeeaaDoor
