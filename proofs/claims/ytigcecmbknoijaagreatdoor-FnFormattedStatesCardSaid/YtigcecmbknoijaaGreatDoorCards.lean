/-
  DERIVED. GIVEN WITH THE SEED: THE CARDS: each row of YtigcecmbknoijaaGreatDoorRows.lean that lists a variable, with what it lists TIED to the program's text (the seventh form; the later family's looks); each row that meets fmt, with fmt's text TOLD by the authors' own Lean function (tested against real Go, not proved from fmt's source: count such statements apart). THE CARD IS WHAT COUNTS. Prove the row's statement (the work); the ties are given (YtigcecmbknoijaaGreatDoorTie.lean); close each card by the builder's one call (the guide's Derived/Test/ToyasCard.lean, 'card_holds'). Laid BY PROGRAM, IN A SANDBOX (cutbox-door.mjs). By AI agents, Wed Nov 11 2026. No macro, syntax, notation, axiom, sorry.
-/
import Derived.Test.YtigcecmbknoijaaGreatDoorRows
import GoSem.ClaimSeven
namespace Go.Proofs.YtigcecmbknoijaaGreatDoor
namespace Rows

/-- THE TIED CARD OF 'laws.FnFormattedAmounts'. -/
def fnFormattedAmountsCard : Claim7 := { stood := { row := fnFormattedAmountsRow, standIns := [], harness := (true, "23af2fd1b2aad47e2862499b86c0f1cd4aacfa22c41911a39e67ac06295fbeca"), looks := false }, kinds := [], alts := [], laidByText := true, laidKinds := [.data, .data, .data], laidTests := true, laidLooks := .later }
def FnFormattedAmountsCardSaid : Prop := Claim7.holds Tryz.pinned (.plain (OpenSpec.ofChange fnFormattedAmountsSpec)) fnFormattedAmountsCard

/-- THE TIED CARD OF 'laws.FnFormattedStates'. -/
def fnFormattedStatesCard : Claim7 := { stood := { row := fnFormattedStatesRow, standIns := [], harness := (true, "23af2fd1b2aad47e2862499b86c0f1cd4aacfa22c41911a39e67ac06295fbeca"), looks := false }, kinds := [], alts := [], laidByText := true, laidKinds := [.data, .data, .data], laidTests := true, laidLooks := .later }
def FnFormattedStatesCardSaid : Prop := Claim7.holds Tryz.pinned (.plain (OpenSpec.ofChange fnFormattedStatesSpec)) fnFormattedStatesCard

/-- THE SECOND FORM's CARD OF 'laws.FnFormattedAmounts'. -/
def fnFormattedAmountsUptoCard : Claim7 := { stood := { row := fnFormattedAmountsUptoRow, standIns := [], harness := (true, "23af2fd1b2aad47e2862499b86c0f1cd4aacfa22c41911a39e67ac06295fbeca"), looks := false }, kinds := [], alts := [], laidByText := true, laidKinds := [.data, .data, .data], laidTests := true, laidLooks := .later }
def FnFormattedAmountsUptoCardSaid : Prop := Claim7.holds Tryz.pinned (.plain (OpenSpec.upto fnFormattedAmountsSpec)) fnFormattedAmountsUptoCard

/-- THE SECOND FORM's CARD OF 'laws.FnFormattedStates'. -/
def fnFormattedStatesUptoCard : Claim7 := { stood := { row := fnFormattedStatesUptoRow, standIns := [], harness := (true, "23af2fd1b2aad47e2862499b86c0f1cd4aacfa22c41911a39e67ac06295fbeca"), looks := false }, kinds := [], alts := [], laidByText := true, laidKinds := [.data, .data, .data], laidTests := true, laidLooks := .later }
def FnFormattedStatesUptoCardSaid : Prop := Claim7.holds Tryz.pinned (.plain (OpenSpec.upto fnFormattedStatesSpec)) fnFormattedStatesUptoCard
end Rows
end Go.Proofs.YtigcecmbknoijaaGreatDoor
