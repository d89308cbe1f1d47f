/-
  DERIVED. GIVEN WITH THE SEED: THE CARDS: each row of YtleamcmljcdapabGreatDoorRows.lean that lists a variable, with what it lists TIED to the program's text (the seventh form; the later family's looks); each row that meets fmt, with fmt's text TOLD by the authors' own Lean function (tested against real Go, not proved from fmt's source: count such statements apart). THE CARD IS WHAT COUNTS. Prove the row's statement (the work); the ties are given (YtleamcmljcdapabGreatDoorTie.lean); close each card by the builder's one call (the guide's Derived/Test/ToyasCard.lean, 'card_holds'). Laid BY PROGRAM, IN A SANDBOX (cutbox-door.mjs). By AI agents, Wed Nov 11 2026. No macro, syntax, notation, axiom, sorry.
-/
import Derived.Test.YtleamcmljcdapabGreatDoorRows
import GoSem.ClaimSeven
namespace Go.Proofs.YtleamcmljcdapabGreatDoor
namespace Rows

/-- THE TIED CARD OF 'pairworkslaw14.BookAgain'. -/
def bookAgainCard : Claim7 := { stood := { row := bookAgainRow, standIns := [], harness := (true, "3efdfb6cdb87a522b63e0e8ac9e4f4e0d67411179f0b74c50583ccc2d4ad2a88"), looks := true }, kinds := [], alts := [], laidByText := true, laidKinds := [.data, .data, .data, .data, .sentinel, .sentinel, .pinned], laidTests := true, laidLooks := .later }
def BookAgainCardSaid : Prop := Claim7.holds Tryz.pinned (.plain (OpenSpec.ofChange bookAgainSpec)) bookAgainCard

/-- THE TIED CARD OF 'pairworkslaw14.BookChanged'. -/
def bookChangedCard : Claim7 := { stood := { row := bookChangedRow, standIns := [], harness := (true, "3efdfb6cdb87a522b63e0e8ac9e4f4e0d67411179f0b74c50583ccc2d4ad2a88"), looks := true }, kinds := [], alts := [], laidByText := true, laidKinds := [.data, .data, .data, .data, .sentinel, .sentinel, .pinned], laidTests := true, laidLooks := .later }
def BookChangedCardSaid : Prop := Claim7.holds Tryz.pinned (.plain (OpenSpec.ofChange bookChangedSpec)) bookChangedCard

/-- THE TIED CARD OF 'pairworkslaw14.BookOwns'. -/
def bookOwnsCard : Claim7 := { stood := { row := bookOwnsRow, standIns := [], harness := (true, "3efdfb6cdb87a522b63e0e8ac9e4f4e0d67411179f0b74c50583ccc2d4ad2a88"), looks := true }, kinds := [], alts := [], laidByText := true, laidKinds := [.data, .data, .data, .data, .sentinel, .sentinel, .pinned], laidTests := true, laidLooks := .later }
def BookOwnsCardSaid : Prop := Claim7.holds Tryz.pinned (.plain (OpenSpec.ofChange bookOwnsSpec)) bookOwnsCard

/-- THE TIED CARD OF 'pairworkslaw14.BookGrows'. -/
def bookGrowsCard : Claim7 := { stood := { row := bookGrowsRow, standIns := [], harness := (true, "3efdfb6cdb87a522b63e0e8ac9e4f4e0d67411179f0b74c50583ccc2d4ad2a88"), looks := true }, kinds := [], alts := [], laidByText := true, laidKinds := [.data, .data, .data, .data, .sentinel, .sentinel, .pinned], laidTests := true, laidLooks := .later }
def BookGrowsCardSaid : Prop := Claim7.holds Tryz.pinned (.plain (OpenSpec.ofChange bookGrowsSpec)) bookGrowsCard

/-- THE TIED CARD OF 'pairworkslaw14.BookCut'. -/
def bookCutCard : Claim7 := { stood := { row := bookCutRow, standIns := [], harness := (true, "3efdfb6cdb87a522b63e0e8ac9e4f4e0d67411179f0b74c50583ccc2d4ad2a88"), looks := true }, kinds := [], alts := [], laidByText := true, laidKinds := [.data, .data, .data, .data, .sentinel, .sentinel, .pinned], laidTests := true, laidLooks := .later }
def BookCutCardSaid : Prop := Claim7.holds Tryz.pinned (.plain (OpenSpec.ofChange bookCutSpec)) bookCutCard

/-- THE SECOND FORM's CARD OF 'pairworkslaw14.BookAgain'. -/
def bookAgainUptoCard : Claim7 := { stood := { row := bookAgainUptoRow, standIns := [], harness := (true, "3efdfb6cdb87a522b63e0e8ac9e4f4e0d67411179f0b74c50583ccc2d4ad2a88"), looks := true }, kinds := [], alts := [], laidByText := true, laidKinds := [.data, .data, .data, .data, .sentinel, .sentinel, .pinned], laidTests := true, laidLooks := .later }
def BookAgainUptoCardSaid : Prop := Claim7.holds Tryz.pinned (.plain (OpenSpec.upto bookAgainSpec)) bookAgainUptoCard

/-- THE SECOND FORM's CARD OF 'pairworkslaw14.BookChanged'. -/
def bookChangedUptoCard : Claim7 := { stood := { row := bookChangedUptoRow, standIns := [], harness := (true, "3efdfb6cdb87a522b63e0e8ac9e4f4e0d67411179f0b74c50583ccc2d4ad2a88"), looks := true }, kinds := [], alts := [], laidByText := true, laidKinds := [.data, .data, .data, .data, .sentinel, .sentinel, .pinned], laidTests := true, laidLooks := .later }
def BookChangedUptoCardSaid : Prop := Claim7.holds Tryz.pinned (.plain (OpenSpec.upto bookChangedSpec)) bookChangedUptoCard

/-- THE SECOND FORM's CARD OF 'pairworkslaw14.BookOwns'. -/
def bookOwnsUptoCard : Claim7 := { stood := { row := bookOwnsUptoRow, standIns := [], harness := (true, "3efdfb6cdb87a522b63e0e8ac9e4f4e0d67411179f0b74c50583ccc2d4ad2a88"), looks := true }, kinds := [], alts := [], laidByText := true, laidKinds := [.data, .data, .data, .data, .sentinel, .sentinel, .pinned], laidTests := true, laidLooks := .later }
def BookOwnsUptoCardSaid : Prop := Claim7.holds Tryz.pinned (.plain (OpenSpec.upto bookOwnsSpec)) bookOwnsUptoCard

/-- THE SECOND FORM's CARD OF 'pairworkslaw14.BookGrows'. -/
def bookGrowsUptoCard : Claim7 := { stood := { row := bookGrowsUptoRow, standIns := [], harness := (true, "3efdfb6cdb87a522b63e0e8ac9e4f4e0d67411179f0b74c50583ccc2d4ad2a88"), looks := true }, kinds := [], alts := [], laidByText := true, laidKinds := [.data, .data, .data, .data, .sentinel, .sentinel, .pinned], laidTests := true, laidLooks := .later }
def BookGrowsUptoCardSaid : Prop := Claim7.holds Tryz.pinned (.plain (OpenSpec.upto bookGrowsSpec)) bookGrowsUptoCard

/-- THE SECOND FORM's CARD OF 'pairworkslaw14.BookCut'. -/
def bookCutUptoCard : Claim7 := { stood := { row := bookCutUptoRow, standIns := [], harness := (true, "3efdfb6cdb87a522b63e0e8ac9e4f4e0d67411179f0b74c50583ccc2d4ad2a88"), looks := true }, kinds := [], alts := [], laidByText := true, laidKinds := [.data, .data, .data, .data, .sentinel, .sentinel, .pinned], laidTests := true, laidLooks := .later }
def BookCutUptoCardSaid : Prop := Claim7.holds Tryz.pinned (.plain (OpenSpec.upto bookCutSpec)) bookCutUptoCard
end Rows
end Go.Proofs.YtleamcmljcdapabGreatDoor
