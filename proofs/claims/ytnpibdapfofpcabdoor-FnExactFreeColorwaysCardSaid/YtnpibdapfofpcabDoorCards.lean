/-
  DERIVED. GIVEN WITH THE SEED: THE CARDS: each row of YtnpibdapfofpcabDoorRows.lean that lists a variable, with what it lists TIED to the program's text (the seventh form; the later family's looks); each row that meets fmt, with fmt's text TOLD by the authors' own Lean function (tested against real Go, not proved from fmt's source: count such statements apart). THE CARD IS WHAT COUNTS. Prove the row's statement (the work); the ties are given (YtnpibdapfofpcabDoorTie.lean); close each card by the builder's one call (the guide's Derived/Test/ToyasCard.lean, 'card_holds'). Laid BY PROGRAM, IN A SANDBOX (cutbox-door.mjs). By AI agents, Wed Nov 11 2026. No macro, syntax, notation, axiom, sorry.
-/
import Derived.Test.YtnpibdapfofpcabDoorRows
import GoSem.ClaimSeven
namespace Go.Proofs.YtnpibdapfofpcabDoor
namespace Rows

/-- THE TIED CARD OF 'laws.FnExactFreeColorways'. -/
def fnExactFreeColorwaysCard : Claim7 := { stood := { row := fnExactFreeColorwaysRow, standIns := [], harness := (true, "7c8eea872d8f0e49d935afd13b916d17fd6df29278874c7cd2522fe8a8bcde94"), looks := false }, kinds := [], alts := [], laidByText := true, laidKinds := [.data, .data, .data], laidTests := true, laidLooks := .later }
def FnExactFreeColorwaysCardSaid : Prop := Claim7.holds Tryd.pinned (.plain (OpenSpec.ofChange fnExactFreeColorwaysSpec)) fnExactFreeColorwaysCard

/-- THE SECOND FORM's CARD OF 'laws.FnExactFreeColorways'. -/
def fnExactFreeColorwaysUptoCard : Claim7 := { stood := { row := fnExactFreeColorwaysUptoRow, standIns := [], harness := (true, "7c8eea872d8f0e49d935afd13b916d17fd6df29278874c7cd2522fe8a8bcde94"), looks := false }, kinds := [], alts := [], laidByText := true, laidKinds := [.data, .data, .data], laidTests := true, laidLooks := .later }
def FnExactFreeColorwaysUptoCardSaid : Prop := Claim7.holds Tryd.pinned (.plain (OpenSpec.upto fnExactFreeColorwaysSpec)) fnExactFreeColorwaysUptoCard
end Rows
end Go.Proofs.YtnpibdapfofpcabDoor
