/-
  DERIVED. GIVEN WITH THE SEED: THE CARDS: each row of YtleamcmljcdapaaGreatDoorRows.lean that lists a variable, with what it lists TIED to the program's text (the seventh form; the later family's looks); each row that meets fmt, with fmt's text TOLD by the authors' own Lean function (tested against real Go, not proved from fmt's source: count such statements apart). THE CARD IS WHAT COUNTS. Prove the row's statement (the work); the ties are given (YtleamcmljcdapaaGreatDoorTie.lean); close each card by the builder's one call (the guide's Derived/Test/ToyasCard.lean, 'card_holds'). Laid BY PROGRAM, IN A SANDBOX (cutbox-door.mjs). By AI agents, Wed Nov 11 2026. No macro, syntax, notation, axiom, sorry.
-/
import Derived.Test.YtleamcmljcdapaaGreatDoorRows
import GoSem.ClaimSeven
namespace Go.Proofs.YtleamcmljcdapaaGreatDoor
namespace Rows

/-- THE TIED CARD OF 'pairworkslaw14.BookTours'. -/
def bookToursCard : Claim7 := { stood := { row := bookToursRow, standIns := [], harness := (true, "51e6dfc56e46f5c1319b7c3c208fe935c8139e70df585bf6016d32e4e09745b6"), looks := true }, kinds := [], alts := [], laidByText := true, laidKinds := [.data, .data, .data, .data, .sentinel, .sentinel, .pinned], laidTests := true, laidLooks := .later }
def BookToursCardSaid : Prop := Claim7.holds Tryz.pinned (.plain (OpenSpec.ofChange bookToursSpec)) bookToursCard

/-- THE TIED CARD OF 'pairworkslaw14.BookTexts'. -/
def bookTextsCard : Claim7 := { stood := { row := bookTextsRow, standIns := [], harness := (true, "51e6dfc56e46f5c1319b7c3c208fe935c8139e70df585bf6016d32e4e09745b6"), looks := true }, kinds := [], alts := [], laidByText := true, laidKinds := [.data, .data, .data, .data, .sentinel, .sentinel, .pinned], laidTests := true, laidLooks := .later }
def BookTextsCardSaid : Prop := Claim7.holds Tryz.pinned (.plain (OpenSpec.ofChange bookTextsSpec)) bookTextsCard

/-- THE TIED CARD OF 'pairworkslaw14.BookPrints'. -/
def bookPrintsCard : Claim7 := { stood := { row := bookPrintsRow, standIns := [], harness := (true, "51e6dfc56e46f5c1319b7c3c208fe935c8139e70df585bf6016d32e4e09745b6"), looks := true }, kinds := [], alts := [], laidByText := true, laidKinds := [.data, .data, .data, .data, .sentinel, .sentinel, .pinned], laidTests := true, laidLooks := .later }
def BookPrintsCardSaid : Prop := Claim7.holds Tryz.pinned (.plain (OpenSpec.ofChange bookPrintsSpec)) bookPrintsCard

/-- THE TIED CARD OF 'pairworkslaw14.BookNames'. -/
def bookNamesCard : Claim7 := { stood := { row := bookNamesRow, standIns := [], harness := (true, "51e6dfc56e46f5c1319b7c3c208fe935c8139e70df585bf6016d32e4e09745b6"), looks := true }, kinds := [], alts := [], laidByText := true, laidKinds := [.data, .data, .data, .data, .sentinel, .sentinel, .pinned], laidTests := true, laidLooks := .later }
def BookNamesCardSaid : Prop := Claim7.holds Tryz.pinned (.plain (OpenSpec.ofChange bookNamesSpec)) bookNamesCard

/-- THE TIED CARD OF 'pairworkslaw14.BookBack'. -/
def bookBackCard : Claim7 := { stood := { row := bookBackRow, standIns := [], harness := (true, "51e6dfc56e46f5c1319b7c3c208fe935c8139e70df585bf6016d32e4e09745b6"), looks := true }, kinds := [], alts := [], laidByText := true, laidKinds := [.data, .data, .data, .data, .sentinel, .sentinel, .pinned], laidTests := true, laidLooks := .later }
def BookBackCardSaid : Prop := Claim7.holds Tryz.pinned (.plain (OpenSpec.ofChange bookBackSpec)) bookBackCard

/-- THE SECOND FORM's CARD OF 'pairworkslaw14.BookTours'. -/
def bookToursUptoCard : Claim7 := { stood := { row := bookToursUptoRow, standIns := [], harness := (true, "51e6dfc56e46f5c1319b7c3c208fe935c8139e70df585bf6016d32e4e09745b6"), looks := true }, kinds := [], alts := [], laidByText := true, laidKinds := [.data, .data, .data, .data, .sentinel, .sentinel, .pinned], laidTests := true, laidLooks := .later }
def BookToursUptoCardSaid : Prop := Claim7.holds Tryz.pinned (.plain (OpenSpec.upto bookToursSpec)) bookToursUptoCard

/-- THE SECOND FORM's CARD OF 'pairworkslaw14.BookTexts'. -/
def bookTextsUptoCard : Claim7 := { stood := { row := bookTextsUptoRow, standIns := [], harness := (true, "51e6dfc56e46f5c1319b7c3c208fe935c8139e70df585bf6016d32e4e09745b6"), looks := true }, kinds := [], alts := [], laidByText := true, laidKinds := [.data, .data, .data, .data, .sentinel, .sentinel, .pinned], laidTests := true, laidLooks := .later }
def BookTextsUptoCardSaid : Prop := Claim7.holds Tryz.pinned (.plain (OpenSpec.upto bookTextsSpec)) bookTextsUptoCard

/-- THE SECOND FORM's CARD OF 'pairworkslaw14.BookPrints'. -/
def bookPrintsUptoCard : Claim7 := { stood := { row := bookPrintsUptoRow, standIns := [], harness := (true, "51e6dfc56e46f5c1319b7c3c208fe935c8139e70df585bf6016d32e4e09745b6"), looks := true }, kinds := [], alts := [], laidByText := true, laidKinds := [.data, .data, .data, .data, .sentinel, .sentinel, .pinned], laidTests := true, laidLooks := .later }
def BookPrintsUptoCardSaid : Prop := Claim7.holds Tryz.pinned (.plain (OpenSpec.upto bookPrintsSpec)) bookPrintsUptoCard

/-- THE SECOND FORM's CARD OF 'pairworkslaw14.BookNames'. -/
def bookNamesUptoCard : Claim7 := { stood := { row := bookNamesUptoRow, standIns := [], harness := (true, "51e6dfc56e46f5c1319b7c3c208fe935c8139e70df585bf6016d32e4e09745b6"), looks := true }, kinds := [], alts := [], laidByText := true, laidKinds := [.data, .data, .data, .data, .sentinel, .sentinel, .pinned], laidTests := true, laidLooks := .later }
def BookNamesUptoCardSaid : Prop := Claim7.holds Tryz.pinned (.plain (OpenSpec.upto bookNamesSpec)) bookNamesUptoCard

/-- THE SECOND FORM's CARD OF 'pairworkslaw14.BookBack'. -/
def bookBackUptoCard : Claim7 := { stood := { row := bookBackUptoRow, standIns := [], harness := (true, "51e6dfc56e46f5c1319b7c3c208fe935c8139e70df585bf6016d32e4e09745b6"), looks := true }, kinds := [], alts := [], laidByText := true, laidKinds := [.data, .data, .data, .data, .sentinel, .sentinel, .pinned], laidTests := true, laidLooks := .later }
def BookBackUptoCardSaid : Prop := Claim7.holds Tryz.pinned (.plain (OpenSpec.upto bookBackSpec)) bookBackUptoCard
end Rows
end Go.Proofs.YtleamcmljcdapaaGreatDoor
