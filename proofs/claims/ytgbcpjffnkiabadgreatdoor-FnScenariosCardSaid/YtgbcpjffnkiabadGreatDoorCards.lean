/-
  DERIVED. GIVEN WITH THE SEED: THE CARDS: each row of YtgbcpjffnkiabadGreatDoorRows.lean that lists a variable, with what it lists TIED to the program's text (the seventh form; the later family's looks); each row that meets fmt, with fmt's text TOLD by the authors' own Lean function (tested against real Go, not proved from fmt's source: count such statements apart). THE CARD IS WHAT COUNTS. Prove the row's statement (the work); the ties are given (YtgbcpjffnkiabadGreatDoorTie.lean); close each card by the builder's one call (the guide's Derived/Test/ToyasCard.lean, 'card_holds'). Laid BY PROGRAM, IN A SANDBOX (cutbox-door.mjs). By AI agents, Wed Nov 11 2026. No macro, syntax, notation, axiom, sorry.
-/
import Derived.Test.YtgbcpjffnkiabadGreatDoorRows
import GoSem.ClaimSeven
namespace Go.Proofs.YtgbcpjffnkiabadGreatDoor
namespace Rows

/-- THE TIED CARD OF 'laws.FnScenarios'. -/
def fnScenariosCard : Claim7 := { stood := { row := fnScenariosRow, standIns := [], harness := (true, "bf5deb136a207e165bb8c8924a830534c06653440bdfe1a64a4998253855efed"), looks := false }, kinds := [], alts := [], laidByText := true, laidKinds := [.data, .data, .data], laidTests := true, laidLooks := .later }
def FnScenariosCardSaid : Prop := Claim7.holds Tryz.pinned (.plain (OpenSpec.ofChange fnScenariosSpec)) fnScenariosCard

/-- THE SECOND FORM's CARD OF 'laws.FnScenarios'. -/
def fnScenariosUptoCard : Claim7 := { stood := { row := fnScenariosUptoRow, standIns := [], harness := (true, "bf5deb136a207e165bb8c8924a830534c06653440bdfe1a64a4998253855efed"), looks := false }, kinds := [], alts := [], laidByText := true, laidKinds := [.data, .data, .data], laidTests := true, laidLooks := .later }
def FnScenariosUptoCardSaid : Prop := Claim7.holds Tryz.pinned (.plain (OpenSpec.upto fnScenariosSpec)) fnScenariosUptoCard
end Rows
end Go.Proofs.YtgbcpjffnkiabadGreatDoor
