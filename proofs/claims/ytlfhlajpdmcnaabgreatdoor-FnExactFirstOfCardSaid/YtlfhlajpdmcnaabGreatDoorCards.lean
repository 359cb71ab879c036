/-
  DERIVED. GIVEN WITH THE SEED: THE CARDS: each row of YtlfhlajpdmcnaabGreatDoorRows.lean that lists a variable, with what it lists TIED to the program's text (the seventh form; the later family's looks); each row that meets fmt, with fmt's text TOLD by the authors' own Lean function (tested against real Go, not proved from fmt's source: count such statements apart). THE CARD IS WHAT COUNTS. Prove the row's statement (the work); the ties are given (YtlfhlajpdmcnaabGreatDoorTie.lean); close each card by the builder's one call (the guide's Derived/Test/ToyasCard.lean, 'card_holds'). Laid BY PROGRAM, IN A SANDBOX (cutbox-door.mjs). By AI agents, Wed Nov 11 2026. No macro, syntax, notation, axiom, sorry.
-/
import Derived.Test.YtlfhlajpdmcnaabGreatDoorRows
import GoSem.ClaimSeven
namespace Go.Proofs.YtlfhlajpdmcnaabGreatDoor
namespace Rows

/-- THE TIED CARD OF 'laws.FnExactVerdictOn'. -/
def fnExactVerdictOnCard : Claim7 := { stood := { row := fnExactVerdictOnRow, standIns := [], harness := (true, "d7005acdcd23404a69f2488ac47940057879d443333c2e680e27200c43bebbfe"), looks := false }, kinds := [], alts := [], laidByText := true, laidKinds := [.data, .data, .data], laidTests := true, laidLooks := .later }
def FnExactVerdictOnCardSaid : Prop := Claim7.holds Tryz.pinned (.plain (OpenSpec.ofChange fnExactVerdictOnSpec)) fnExactVerdictOnCard

/-- THE TIED CARD OF 'laws.FnExactIsCopy'. -/
def fnExactIsCopyCard : Claim7 := { stood := { row := fnExactIsCopyRow, standIns := [], harness := (true, "d7005acdcd23404a69f2488ac47940057879d443333c2e680e27200c43bebbfe"), looks := false }, kinds := [], alts := [], laidByText := true, laidKinds := [.data, .data, .data], laidTests := true, laidLooks := .later }
def FnExactIsCopyCardSaid : Prop := Claim7.holds Tryz.pinned (.plain (OpenSpec.ofChange fnExactIsCopySpec)) fnExactIsCopyCard

/-- THE TIED CARD OF 'laws.FnExactFirstOf'. -/
def fnExactFirstOfCard : Claim7 := { stood := { row := fnExactFirstOfRow, standIns := [], harness := (true, "d7005acdcd23404a69f2488ac47940057879d443333c2e680e27200c43bebbfe"), looks := false }, kinds := [], alts := [], laidByText := true, laidKinds := [.data, .data, .data], laidTests := true, laidLooks := .later }
def FnExactFirstOfCardSaid : Prop := Claim7.holds Tryz.pinned (.plain (OpenSpec.ofChange fnExactFirstOfSpec)) fnExactFirstOfCard

/-- THE TIED CARD OF 'laws.FnExactCopiesIn'. -/
def fnExactCopiesInCard : Claim7 := { stood := { row := fnExactCopiesInRow, standIns := [], harness := (true, "d7005acdcd23404a69f2488ac47940057879d443333c2e680e27200c43bebbfe"), looks := false }, kinds := [], alts := [], laidByText := true, laidKinds := [.data, .data, .data], laidTests := true, laidLooks := .later }
def FnExactCopiesInCardSaid : Prop := Claim7.holds Tryz.pinned (.plain (OpenSpec.ofChange fnExactCopiesInSpec)) fnExactCopiesInCard

/-- THE SECOND FORM's CARD OF 'laws.FnExactVerdictOn'. -/
def fnExactVerdictOnUptoCard : Claim7 := { stood := { row := fnExactVerdictOnUptoRow, standIns := [], harness := (true, "d7005acdcd23404a69f2488ac47940057879d443333c2e680e27200c43bebbfe"), looks := false }, kinds := [], alts := [], laidByText := true, laidKinds := [.data, .data, .data], laidTests := true, laidLooks := .later }
def FnExactVerdictOnUptoCardSaid : Prop := Claim7.holds Tryz.pinned (.plain (OpenSpec.upto fnExactVerdictOnSpec)) fnExactVerdictOnUptoCard

/-- THE SECOND FORM's CARD OF 'laws.FnExactIsCopy'. -/
def fnExactIsCopyUptoCard : Claim7 := { stood := { row := fnExactIsCopyUptoRow, standIns := [], harness := (true, "d7005acdcd23404a69f2488ac47940057879d443333c2e680e27200c43bebbfe"), looks := false }, kinds := [], alts := [], laidByText := true, laidKinds := [.data, .data, .data], laidTests := true, laidLooks := .later }
def FnExactIsCopyUptoCardSaid : Prop := Claim7.holds Tryz.pinned (.plain (OpenSpec.upto fnExactIsCopySpec)) fnExactIsCopyUptoCard

/-- THE SECOND FORM's CARD OF 'laws.FnExactFirstOf'. -/
def fnExactFirstOfUptoCard : Claim7 := { stood := { row := fnExactFirstOfUptoRow, standIns := [], harness := (true, "d7005acdcd23404a69f2488ac47940057879d443333c2e680e27200c43bebbfe"), looks := false }, kinds := [], alts := [], laidByText := true, laidKinds := [.data, .data, .data], laidTests := true, laidLooks := .later }
def FnExactFirstOfUptoCardSaid : Prop := Claim7.holds Tryz.pinned (.plain (OpenSpec.upto fnExactFirstOfSpec)) fnExactFirstOfUptoCard

/-- THE SECOND FORM's CARD OF 'laws.FnExactCopiesIn'. -/
def fnExactCopiesInUptoCard : Claim7 := { stood := { row := fnExactCopiesInUptoRow, standIns := [], harness := (true, "d7005acdcd23404a69f2488ac47940057879d443333c2e680e27200c43bebbfe"), looks := false }, kinds := [], alts := [], laidByText := true, laidKinds := [.data, .data, .data], laidTests := true, laidLooks := .later }
def FnExactCopiesInUptoCardSaid : Prop := Claim7.holds Tryz.pinned (.plain (OpenSpec.upto fnExactCopiesInSpec)) fnExactCopiesInUptoCard
end Rows
end Go.Proofs.YtlfhlajpdmcnaabGreatDoor
