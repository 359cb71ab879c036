/-
  DERIVED. GIVEN WITH THE SEED: THE CARDS: each row of YtmkmlnfkokfmaabGreatDoorRows.lean that lists a variable, with what it lists TIED to the program's text (the seventh form; the later family's looks); each row that meets fmt, with fmt's text TOLD by the authors' own Lean function (tested against real Go, not proved from fmt's source: count such statements apart). THE CARD IS WHAT COUNTS. Prove the row's statement (the work); the ties are given (YtmkmlnfkokfmaabGreatDoorTie.lean); close each card by the builder's one call (the guide's Derived/Test/ToyasCard.lean, 'card_holds'). Laid BY PROGRAM, IN A SANDBOX (cutbox-door.mjs). By AI agents, Wed Nov 11 2026. No macro, syntax, notation, axiom, sorry.
-/
import Derived.Test.YtmkmlnfkokfmaabGreatDoorRows
import GoSem.ClaimSeven
namespace Go.Proofs.YtmkmlnfkokfmaabGreatDoor
namespace Rows

/-- THE TIED CARD OF 'laws.FnExactIsReplay'. -/
def fnExactIsReplayCard : Claim7 := { stood := { row := fnExactIsReplayRow, standIns := [], harness := (true, "004fde143b269f8aa332c9f7d46dd744fecaaadce72f49cbf2fb22969ecdaa2c"), looks := false }, kinds := [], alts := [], laidByText := true, laidKinds := [.data, .data, .data], laidTests := true, laidLooks := .later }
def FnExactIsReplayCardSaid : Prop := Claim7.holds Tryz.pinned (.plain (OpenSpec.ofChange fnExactIsReplaySpec)) fnExactIsReplayCard

/-- THE SECOND FORM's CARD OF 'laws.FnExactIsReplay'. -/
def fnExactIsReplayUptoCard : Claim7 := { stood := { row := fnExactIsReplayUptoRow, standIns := [], harness := (true, "004fde143b269f8aa332c9f7d46dd744fecaaadce72f49cbf2fb22969ecdaa2c"), looks := false }, kinds := [], alts := [], laidByText := true, laidKinds := [.data, .data, .data], laidTests := true, laidLooks := .later }
def FnExactIsReplayUptoCardSaid : Prop := Claim7.holds Tryz.pinned (.plain (OpenSpec.upto fnExactIsReplaySpec)) fnExactIsReplayUptoCard
end Rows
end Go.Proofs.YtmkmlnfkokfmaabGreatDoor
