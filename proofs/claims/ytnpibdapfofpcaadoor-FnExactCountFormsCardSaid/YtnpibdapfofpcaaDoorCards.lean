/-
  DERIVED. GIVEN WITH THE SEED: THE CARDS: each row of YtnpibdapfofpcaaDoorRows.lean that lists a variable, with what it lists TIED to the program's text (the seventh form; the later family's looks); each row that meets fmt, with fmt's text TOLD by the authors' own Lean function (tested against real Go, not proved from fmt's source: count such statements apart). THE CARD IS WHAT COUNTS. Prove the row's statement (the work); the ties are given (YtnpibdapfofpcaaDoorTie.lean); close each card by the builder's one call (the guide's Derived/Test/ToyasCard.lean, 'card_holds'). Laid BY PROGRAM, IN A SANDBOX (cutbox-door.mjs). By AI agents, Wed Nov 11 2026. No macro, syntax, notation, axiom, sorry.
-/
import Derived.Test.YtnpibdapfofpcaaDoorRows
import GoSem.ClaimSeven
namespace Go.Proofs.YtnpibdapfofpcaaDoor
namespace Rows

/-- THE TIED CARD OF 'laws.FnExactCountForms'. -/
def fnExactCountFormsCard : Claim7 := { stood := { row := fnExactCountFormsRow, standIns := [], harness := (true, "850729efc6c3b8c793023d68d7a864d886826651ce37e1fd84bcd98581d49f5f"), looks := false }, kinds := [], alts := [], laidByText := true, laidKinds := [.data, .data, .data], laidTests := true, laidLooks := .later }
def FnExactCountFormsCardSaid : Prop := Claim7.holds Tryd.pinned (.plain (OpenSpec.ofChange fnExactCountFormsSpec)) fnExactCountFormsCard

/-- THE SECOND FORM's CARD OF 'laws.FnExactCountForms'. -/
def fnExactCountFormsUptoCard : Claim7 := { stood := { row := fnExactCountFormsUptoRow, standIns := [], harness := (true, "850729efc6c3b8c793023d68d7a864d886826651ce37e1fd84bcd98581d49f5f"), looks := false }, kinds := [], alts := [], laidByText := true, laidKinds := [.data, .data, .data], laidTests := true, laidLooks := .later }
def FnExactCountFormsUptoCardSaid : Prop := Claim7.holds Tryd.pinned (.plain (OpenSpec.upto fnExactCountFormsSpec)) fnExactCountFormsUptoCard
end Rows
end Go.Proofs.YtnpibdapfofpcaaDoor
