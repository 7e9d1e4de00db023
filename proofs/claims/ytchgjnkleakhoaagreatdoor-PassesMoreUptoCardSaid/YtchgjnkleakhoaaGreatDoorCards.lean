/-
  DERIVED. GIVEN WITH THE SEED: THE CARDS: each row of YtchgjnkleakhoaaGreatDoorRows.lean that lists a variable, with what it lists TIED to the program's text (the seventh form; the later family's looks); each row that meets fmt, with fmt's text TOLD by the authors' own Lean function (tested against real Go, not proved from fmt's source: count such statements apart). THE CARD IS WHAT COUNTS. Prove the row's statement (the work); the ties are given (YtchgjnkleakhoaaGreatDoorTie.lean); close each card by the builder's one call (the guide's Derived/Test/ToyasCard.lean, 'card_holds'). Laid BY PROGRAM, IN A SANDBOX (cutbox-door.mjs). By AI agents, Wed Nov 11 2026. No macro, syntax, notation, axiom, sorry.
-/
import Derived.Test.YtchgjnkleakhoaaGreatDoorRows
import GoSem.ClaimSeven
namespace Go.Proofs.YtchgjnkleakhoaaGreatDoor
namespace Rows

/-- THE TIED CARD OF 'witanlaw18.PassesMore'. -/
def passesMoreCard : Claim7 := { stood := { row := passesMoreRow, standIns := [], harness := (true, "13a56b8b672a54ada316e412bdbe18b0d7183cf292a8d2c88fa9e1883ba565c1"), looks := true }, kinds := [], alts := [], laidByText := true, laidKinds := [.data, .data, .data, .data, .sentinel, .sentinel, .pinned], laidTests := true, laidLooks := .later }
def PassesMoreCardSaid : Prop := Claim7.holds Tryz.pinned (.plain (OpenSpec.ofChange passesMoreSpec)) passesMoreCard

/-- THE SECOND FORM's CARD OF 'witanlaw18.PassesMore'. -/
def passesMoreUptoCard : Claim7 := { stood := { row := passesMoreUptoRow, standIns := [], harness := (true, "13a56b8b672a54ada316e412bdbe18b0d7183cf292a8d2c88fa9e1883ba565c1"), looks := true }, kinds := [], alts := [], laidByText := true, laidKinds := [.data, .data, .data, .data, .sentinel, .sentinel, .pinned], laidTests := true, laidLooks := .later }
def PassesMoreUptoCardSaid : Prop := Claim7.holds Tryz.pinned (.plain (OpenSpec.upto passesMoreSpec)) passesMoreUptoCard
end Rows
end Go.Proofs.YtchgjnkleakhoaaGreatDoor
