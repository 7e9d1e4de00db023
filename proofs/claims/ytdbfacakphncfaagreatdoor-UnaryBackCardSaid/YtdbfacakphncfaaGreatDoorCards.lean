/-
  DERIVED. GIVEN WITH THE SEED: THE CARDS: each row of YtdbfacakphncfaaGreatDoorRows.lean that lists a variable, with what it lists TIED to the program's text (the seventh form; the later family's looks); each row that meets fmt, with fmt's text TOLD by the authors' own Lean function (tested against real Go, not proved from fmt's source: count such statements apart). THE CARD IS WHAT COUNTS. Prove the row's statement (the work); the ties are given (YtdbfacakphncfaaGreatDoorTie.lean); close each card by the builder's one call (the guide's Derived/Test/ToyasCard.lean, 'card_holds'). Laid BY PROGRAM, IN A SANDBOX (cutbox-door.mjs). By AI agents, Wed Nov 11 2026. No macro, syntax, notation, axiom, sorry.
-/
import Derived.Test.YtdbfacakphncfaaGreatDoorRows
import GoSem.ClaimSeven
namespace Go.Proofs.YtdbfacakphncfaaGreatDoor
namespace Rows

/-- THE TIED CARD OF 'witanlaw11.UnaryRanges'. -/
def unaryRangesCard : Claim7 := { stood := { row := unaryRangesRow, standIns := [], harness := (true, "45efb570ba44d363b24983afe57be5ab06c23102b0a7d053382133ebe84bbf3c"), looks := true }, kinds := [], alts := [], laidByText := true, laidKinds := [.data, .data, .data, .data, .sentinel, .sentinel, .pinned], laidTests := true, laidLooks := .later }
def UnaryRangesCardSaid : Prop := Claim7.holds Tryz.pinned (.plain (OpenSpec.ofChange unaryRangesSpec)) unaryRangesCard

/-- THE TIED CARD OF 'witanlaw11.UnaryLists'. -/
def unaryListsCard : Claim7 := { stood := { row := unaryListsRow, standIns := [], harness := (true, "45efb570ba44d363b24983afe57be5ab06c23102b0a7d053382133ebe84bbf3c"), looks := true }, kinds := [], alts := [], laidByText := true, laidKinds := [.data, .data, .data, .data, .sentinel, .sentinel, .pinned], laidTests := true, laidLooks := .later }
def UnaryListsCardSaid : Prop := Claim7.holds Tryz.pinned (.plain (OpenSpec.ofChange unaryListsSpec)) unaryListsCard

/-- THE TIED CARD OF 'witanlaw11.UnaryBack'. -/
def unaryBackCard : Claim7 := { stood := { row := unaryBackRow, standIns := [], harness := (true, "45efb570ba44d363b24983afe57be5ab06c23102b0a7d053382133ebe84bbf3c"), looks := true }, kinds := [], alts := [], laidByText := true, laidKinds := [.data, .data, .data, .data, .sentinel, .sentinel, .pinned], laidTests := true, laidLooks := .later }
def UnaryBackCardSaid : Prop := Claim7.holds Tryz.pinned (.plain (OpenSpec.ofChange unaryBackSpec)) unaryBackCard

/-- THE TIED CARD OF 'witanlaw11.UnaryNames'. -/
def unaryNamesCard : Claim7 := { stood := { row := unaryNamesRow, standIns := [], harness := (true, "45efb570ba44d363b24983afe57be5ab06c23102b0a7d053382133ebe84bbf3c"), looks := true }, kinds := [], alts := [], laidByText := true, laidKinds := [.data, .data, .data, .data, .sentinel, .sentinel, .pinned], laidTests := true, laidLooks := .later }
def UnaryNamesCardSaid : Prop := Claim7.holds Tryz.pinned (.plain (OpenSpec.ofChange unaryNamesSpec)) unaryNamesCard

/-- THE SECOND FORM's CARD OF 'witanlaw11.UnaryRanges'. -/
def unaryRangesUptoCard : Claim7 := { stood := { row := unaryRangesUptoRow, standIns := [], harness := (true, "45efb570ba44d363b24983afe57be5ab06c23102b0a7d053382133ebe84bbf3c"), looks := true }, kinds := [], alts := [], laidByText := true, laidKinds := [.data, .data, .data, .data, .sentinel, .sentinel, .pinned], laidTests := true, laidLooks := .later }
def UnaryRangesUptoCardSaid : Prop := Claim7.holds Tryz.pinned (.plain (OpenSpec.upto unaryRangesSpec)) unaryRangesUptoCard

/-- THE SECOND FORM's CARD OF 'witanlaw11.UnaryLists'. -/
def unaryListsUptoCard : Claim7 := { stood := { row := unaryListsUptoRow, standIns := [], harness := (true, "45efb570ba44d363b24983afe57be5ab06c23102b0a7d053382133ebe84bbf3c"), looks := true }, kinds := [], alts := [], laidByText := true, laidKinds := [.data, .data, .data, .data, .sentinel, .sentinel, .pinned], laidTests := true, laidLooks := .later }
def UnaryListsUptoCardSaid : Prop := Claim7.holds Tryz.pinned (.plain (OpenSpec.upto unaryListsSpec)) unaryListsUptoCard

/-- THE SECOND FORM's CARD OF 'witanlaw11.UnaryBack'. -/
def unaryBackUptoCard : Claim7 := { stood := { row := unaryBackUptoRow, standIns := [], harness := (true, "45efb570ba44d363b24983afe57be5ab06c23102b0a7d053382133ebe84bbf3c"), looks := true }, kinds := [], alts := [], laidByText := true, laidKinds := [.data, .data, .data, .data, .sentinel, .sentinel, .pinned], laidTests := true, laidLooks := .later }
def UnaryBackUptoCardSaid : Prop := Claim7.holds Tryz.pinned (.plain (OpenSpec.upto unaryBackSpec)) unaryBackUptoCard

/-- THE SECOND FORM's CARD OF 'witanlaw11.UnaryNames'. -/
def unaryNamesUptoCard : Claim7 := { stood := { row := unaryNamesUptoRow, standIns := [], harness := (true, "45efb570ba44d363b24983afe57be5ab06c23102b0a7d053382133ebe84bbf3c"), looks := true }, kinds := [], alts := [], laidByText := true, laidKinds := [.data, .data, .data, .data, .sentinel, .sentinel, .pinned], laidTests := true, laidLooks := .later }
def UnaryNamesUptoCardSaid : Prop := Claim7.holds Tryz.pinned (.plain (OpenSpec.upto unaryNamesSpec)) unaryNamesUptoCard
end Rows
end Go.Proofs.YtdbfacakphncfaaGreatDoor
