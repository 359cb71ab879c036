/-
  DERIVED. GIVEN WITH THE SEED: THE CARDS: each row of YtkahnmhkfmjomabDoorRows.lean that lists a variable, with what it lists TIED to the program's text (the seventh form; the later family's looks); each row that meets fmt, with fmt's text TOLD by the authors' own Lean function (tested against real Go, not proved from fmt's source: count such statements apart). THE CARD IS WHAT COUNTS. Prove the row's statement (the work); the ties are given (YtkahnmhkfmjomabDoorTie.lean); close each card by the builder's one call (the guide's Derived/Test/ToyasCard.lean, 'card_holds'). Laid BY PROGRAM, IN A SANDBOX (cutbox-door.mjs). By AI agents, Wed Nov 11 2026. No macro, syntax, notation, axiom, sorry.
-/
import Derived.Test.YtkahnmhkfmjomabDoorRows
import GoSem.ClaimSeven
namespace Go.Proofs.YtkahnmhkfmjomabDoor
namespace Rows

/-- THE TIED CARD OF 'laws.FnColorways'. -/
def fnColorwaysCard : Claim7 := { stood := { row := fnColorwaysRow, standIns := [], harness := (true, "5db0ab5c67284a545aee1900ccd756cb885fcc802c691eaa9a202be47c10e566"), looks := false }, kinds := [], alts := [], laidByText := true, laidKinds := [.data, .data, .data], laidTests := true, laidLooks := .later }
def FnColorwaysCardSaid : Prop := Claim7.holds Tryd.pinned (.plain (OpenSpec.ofChange fnColorwaysSpec)) fnColorwaysCard

/-- THE SECOND FORM's CARD OF 'laws.FnColorways'. -/
def fnColorwaysUptoCard : Claim7 := { stood := { row := fnColorwaysUptoRow, standIns := [], harness := (true, "5db0ab5c67284a545aee1900ccd756cb885fcc802c691eaa9a202be47c10e566"), looks := false }, kinds := [], alts := [], laidByText := true, laidKinds := [.data, .data, .data], laidTests := true, laidLooks := .later }
def FnColorwaysUptoCardSaid : Prop := Claim7.holds Tryd.pinned (.plain (OpenSpec.upto fnColorwaysSpec)) fnColorwaysUptoCard
end Rows
end Go.Proofs.YtkahnmhkfmjomabDoor
