/-
  DERIVED. GIVEN WITH THE SEED: THE CARDS: each row of YtgbcpjffnkiabaaGreatDoorRows.lean that lists a variable, with what it lists TIED to the program's text (the seventh form; the later family's looks); each row that meets fmt, with fmt's text TOLD by the authors' own Lean function (tested against real Go, not proved from fmt's source: count such statements apart). THE CARD IS WHAT COUNTS. Prove the row's statement (the work); the ties are given (YtgbcpjffnkiabaaGreatDoorTie.lean); close each card by the builder's one call (the guide's Derived/Test/ToyasCard.lean, 'card_holds'). Laid BY PROGRAM, IN A SANDBOX (cutbox-door.mjs). By AI agents, Wed Nov 11 2026. No macro, syntax, notation, axiom, sorry.
-/
import Derived.Test.YtgbcpjffnkiabaaGreatDoorRows
import GoSem.ClaimSeven
namespace Go.Proofs.YtgbcpjffnkiabaaGreatDoor
namespace Rows

/-- THE TIED CARD OF 'laws.FnDisputes'. -/
def fnDisputesCard : Claim7 := { stood := { row := fnDisputesRow, standIns := [], harness := (true, "14e856badae2dfd8497e1e2044f9361263924c7e61142003b12b0bcde100e7e4"), looks := false }, kinds := [], alts := [], laidByText := true, laidKinds := [.data, .data, .data], laidTests := true, laidLooks := .later }
def FnDisputesCardSaid : Prop := Claim7.holds Tryz.pinned (.plain (OpenSpec.ofChange fnDisputesSpec)) fnDisputesCard

/-- THE SECOND FORM's CARD OF 'laws.FnDisputes'. -/
def fnDisputesUptoCard : Claim7 := { stood := { row := fnDisputesUptoRow, standIns := [], harness := (true, "14e856badae2dfd8497e1e2044f9361263924c7e61142003b12b0bcde100e7e4"), looks := false }, kinds := [], alts := [], laidByText := true, laidKinds := [.data, .data, .data], laidTests := true, laidLooks := .later }
def FnDisputesUptoCardSaid : Prop := Claim7.holds Tryz.pinned (.plain (OpenSpec.upto fnDisputesSpec)) fnDisputesUptoCard
end Rows
end Go.Proofs.YtgbcpjffnkiabaaGreatDoor
