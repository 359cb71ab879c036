/-
  DERIVED. GIVEN WITH THE SEED: THE CARDS: each row of YtkahnmhkfmjomacGreatDoorRows.lean that lists a variable, with what it lists TIED to the program's text (the seventh form; the later family's looks); each row that meets fmt, with fmt's text TOLD by the authors' own Lean function (tested against real Go, not proved from fmt's source: count such statements apart). THE CARD IS WHAT COUNTS. Prove the row's statement (the work); the ties are given (YtkahnmhkfmjomacGreatDoorTie.lean); close each card by the builder's one call (the guide's Derived/Test/ToyasCard.lean, 'card_holds'). Laid BY PROGRAM, IN A SANDBOX (cutbox-door.mjs). By AI agents, Wed Nov 11 2026. No macro, syntax, notation, axiom, sorry.
-/
import Derived.Test.YtkahnmhkfmjomacGreatDoorRows
import GoSem.ClaimSeven
namespace Go.Proofs.YtkahnmhkfmjomacGreatDoor
namespace Rows

/-- THE TIED CARD OF 'laws.FnExactFormatGuild'. -/
def fnExactFormatGuildCard : Claim7 := { stood := { row := fnExactFormatGuildRow, standIns := [], harness := (true, "430afafc7f9d678be7b57cf86673429f82d2523cb2faacc41984961c21824e39"), looks := false }, kinds := [], alts := [], laidByText := true, laidKinds := [.data, .data, .data], laidTests := true, laidLooks := .later }
def FnExactFormatGuildCardSaid : Prop := Claim7.holds Tryz.pinned (.plain (OpenSpec.ofChange fnExactFormatGuildSpec)) fnExactFormatGuildCard

/-- THE SECOND FORM's CARD OF 'laws.FnExactFormatGuild'. -/
def fnExactFormatGuildUptoCard : Claim7 := { stood := { row := fnExactFormatGuildUptoRow, standIns := [], harness := (true, "430afafc7f9d678be7b57cf86673429f82d2523cb2faacc41984961c21824e39"), looks := false }, kinds := [], alts := [], laidByText := true, laidKinds := [.data, .data, .data], laidTests := true, laidLooks := .later }
def FnExactFormatGuildUptoCardSaid : Prop := Claim7.holds Tryz.pinned (.plain (OpenSpec.upto fnExactFormatGuildSpec)) fnExactFormatGuildUptoCard
end Rows
end Go.Proofs.YtkahnmhkfmjomacGreatDoor
