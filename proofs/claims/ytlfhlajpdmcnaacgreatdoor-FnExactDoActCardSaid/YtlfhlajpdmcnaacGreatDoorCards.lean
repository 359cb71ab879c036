/-
  DERIVED. GIVEN WITH THE SEED: THE CARDS: each row of YtlfhlajpdmcnaacGreatDoorRows.lean that lists a variable, with what it lists TIED to the program's text (the seventh form; the later family's looks); each row that meets fmt, with fmt's text TOLD by the authors' own Lean function (tested against real Go, not proved from fmt's source: count such statements apart). THE CARD IS WHAT COUNTS. Prove the row's statement (the work); the ties are given (YtlfhlajpdmcnaacGreatDoorTie.lean); close each card by the builder's one call (the guide's Derived/Test/ToyasCard.lean, 'card_holds'). Laid BY PROGRAM, IN A SANDBOX (cutbox-door.mjs). By AI agents, Wed Nov 11 2026. No macro, syntax, notation, axiom, sorry.
-/
import Derived.Test.YtlfhlajpdmcnaacGreatDoorRows
import GoSem.ClaimSeven
namespace Go.Proofs.YtlfhlajpdmcnaacGreatDoor
namespace Rows

/-- THE TIED CARD OF 'laws.FnExactSubmit'. -/
def fnExactSubmitCard : Claim7 := { stood := { row := fnExactSubmitRow, standIns := [], harness := (true, "28c6d9e7a8f78868f1acff33c14a819f5a9a7f13f95b1c365b16cb0ee60cba40"), looks := false }, kinds := [], alts := [], laidByText := true, laidKinds := [.data, .data, .data], laidTests := true, laidLooks := .later }
def FnExactSubmitCardSaid : Prop := Claim7.holds Tryz.pinned (.plain (OpenSpec.ofChange fnExactSubmitSpec)) fnExactSubmitCard

/-- THE TIED CARD OF 'laws.FnExactDoAct'. -/
def fnExactDoActCard : Claim7 := { stood := { row := fnExactDoActRow, standIns := [], harness := (true, "28c6d9e7a8f78868f1acff33c14a819f5a9a7f13f95b1c365b16cb0ee60cba40"), looks := false }, kinds := [], alts := [], laidByText := true, laidKinds := [.data, .data, .data], laidTests := true, laidLooks := .later }
def FnExactDoActCardSaid : Prop := Claim7.holds Tryz.pinned (.plain (OpenSpec.ofChange fnExactDoActSpec)) fnExactDoActCard

/-- THE TIED CARD OF 'laws.FnExactRunActs'. -/
def fnExactRunActsCard : Claim7 := { stood := { row := fnExactRunActsRow, standIns := [], harness := (true, "28c6d9e7a8f78868f1acff33c14a819f5a9a7f13f95b1c365b16cb0ee60cba40"), looks := false }, kinds := [], alts := [], laidByText := true, laidKinds := [.data, .data, .data], laidTests := true, laidLooks := .later }
def FnExactRunActsCardSaid : Prop := Claim7.holds Tryz.pinned (.plain (OpenSpec.ofChange fnExactRunActsSpec)) fnExactRunActsCard

/-- THE TIED CARD OF 'laws.FnExactIsReplay'. -/
def fnExactIsReplayCard : Claim7 := { stood := { row := fnExactIsReplayRow, standIns := [], harness := (true, "28c6d9e7a8f78868f1acff33c14a819f5a9a7f13f95b1c365b16cb0ee60cba40"), looks := false }, kinds := [], alts := [], laidByText := true, laidKinds := [.data, .data, .data], laidTests := true, laidLooks := .later }
def FnExactIsReplayCardSaid : Prop := Claim7.holds Tryz.pinned (.plain (OpenSpec.ofChange fnExactIsReplaySpec)) fnExactIsReplayCard

/-- THE SECOND FORM's CARD OF 'laws.FnExactSubmit'. -/
def fnExactSubmitUptoCard : Claim7 := { stood := { row := fnExactSubmitUptoRow, standIns := [], harness := (true, "28c6d9e7a8f78868f1acff33c14a819f5a9a7f13f95b1c365b16cb0ee60cba40"), looks := false }, kinds := [], alts := [], laidByText := true, laidKinds := [.data, .data, .data], laidTests := true, laidLooks := .later }
def FnExactSubmitUptoCardSaid : Prop := Claim7.holds Tryz.pinned (.plain (OpenSpec.upto fnExactSubmitSpec)) fnExactSubmitUptoCard

/-- THE SECOND FORM's CARD OF 'laws.FnExactDoAct'. -/
def fnExactDoActUptoCard : Claim7 := { stood := { row := fnExactDoActUptoRow, standIns := [], harness := (true, "28c6d9e7a8f78868f1acff33c14a819f5a9a7f13f95b1c365b16cb0ee60cba40"), looks := false }, kinds := [], alts := [], laidByText := true, laidKinds := [.data, .data, .data], laidTests := true, laidLooks := .later }
def FnExactDoActUptoCardSaid : Prop := Claim7.holds Tryz.pinned (.plain (OpenSpec.upto fnExactDoActSpec)) fnExactDoActUptoCard

/-- THE SECOND FORM's CARD OF 'laws.FnExactRunActs'. -/
def fnExactRunActsUptoCard : Claim7 := { stood := { row := fnExactRunActsUptoRow, standIns := [], harness := (true, "28c6d9e7a8f78868f1acff33c14a819f5a9a7f13f95b1c365b16cb0ee60cba40"), looks := false }, kinds := [], alts := [], laidByText := true, laidKinds := [.data, .data, .data], laidTests := true, laidLooks := .later }
def FnExactRunActsUptoCardSaid : Prop := Claim7.holds Tryz.pinned (.plain (OpenSpec.upto fnExactRunActsSpec)) fnExactRunActsUptoCard

/-- THE SECOND FORM's CARD OF 'laws.FnExactIsReplay'. -/
def fnExactIsReplayUptoCard : Claim7 := { stood := { row := fnExactIsReplayUptoRow, standIns := [], harness := (true, "28c6d9e7a8f78868f1acff33c14a819f5a9a7f13f95b1c365b16cb0ee60cba40"), looks := false }, kinds := [], alts := [], laidByText := true, laidKinds := [.data, .data, .data], laidTests := true, laidLooks := .later }
def FnExactIsReplayUptoCardSaid : Prop := Claim7.holds Tryz.pinned (.plain (OpenSpec.upto fnExactIsReplaySpec)) fnExactIsReplayUptoCard
end Rows
end Go.Proofs.YtlfhlajpdmcnaacGreatDoor
