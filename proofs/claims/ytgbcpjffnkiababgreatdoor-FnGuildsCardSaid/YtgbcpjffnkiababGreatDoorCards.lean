/-
  DERIVED. GIVEN WITH THE SEED: THE CARDS: each row of YtgbcpjffnkiababGreatDoorRows.lean that lists a variable, with what it lists TIED to the program's text (the seventh form; the later family's looks); each row that meets fmt, with fmt's text TOLD by the authors' own Lean function (tested against real Go, not proved from fmt's source: count such statements apart). THE CARD IS WHAT COUNTS. Prove the row's statement (the work); the ties are given (YtgbcpjffnkiababGreatDoorTie.lean); close each card by the builder's one call (the guide's Derived/Test/ToyasCard.lean, 'card_holds'). Laid BY PROGRAM, IN A SANDBOX (cutbox-door.mjs). By AI agents, Wed Nov 11 2026. No macro, syntax, notation, axiom, sorry.
-/
import Derived.Test.YtgbcpjffnkiababGreatDoorRows
import GoSem.ClaimSeven
namespace Go.Proofs.YtgbcpjffnkiababGreatDoor
namespace Rows

/-- THE TIED CARD OF 'laws.FnGuilds'. -/
def fnGuildsCard : Claim7 := { stood := { row := fnGuildsRow, standIns := [], harness := (true, "1c6a0a122ceb42ddaffc4a0841e397da8bb9e4e4782db9608ed87ab239deefbf"), looks := false }, kinds := [], alts := [], laidByText := true, laidKinds := [.data, .data, .data], laidTests := true, laidLooks := .later }
def FnGuildsCardSaid : Prop := Claim7.holds Tryz.pinned (.plain (OpenSpec.ofChange fnGuildsSpec)) fnGuildsCard

/-- THE SECOND FORM's CARD OF 'laws.FnGuilds'. -/
def fnGuildsUptoCard : Claim7 := { stood := { row := fnGuildsUptoRow, standIns := [], harness := (true, "1c6a0a122ceb42ddaffc4a0841e397da8bb9e4e4782db9608ed87ab239deefbf"), looks := false }, kinds := [], alts := [], laidByText := true, laidKinds := [.data, .data, .data], laidTests := true, laidLooks := .later }
def FnGuildsUptoCardSaid : Prop := Claim7.holds Tryz.pinned (.plain (OpenSpec.upto fnGuildsSpec)) fnGuildsUptoCard
end Rows
end Go.Proofs.YtgbcpjffnkiababGreatDoor
