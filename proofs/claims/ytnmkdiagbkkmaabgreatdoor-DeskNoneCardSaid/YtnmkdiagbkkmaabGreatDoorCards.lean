/-
  DERIVED. GIVEN WITH THE SEED: THE CARDS: each row of YtnmkdiagbkkmaabGreatDoorRows.lean that lists a variable, with what it lists TIED to the program's text (the seventh form; the later family's looks); each row that meets fmt, with fmt's text TOLD by the authors' own Lean function (tested against real Go, not proved from fmt's source: count such statements apart). THE CARD IS WHAT COUNTS. Prove the row's statement (the work); the ties are given (YtnmkdiagbkkmaabGreatDoorTie.lean); close each card by the builder's one call (the guide's Derived/Test/ToyasCard.lean, 'card_holds'). Laid BY PROGRAM, IN A SANDBOX (cutbox-door.mjs). By AI agents, Wed Nov 11 2026. No macro, syntax, notation, axiom, sorry.
-/
import Derived.Test.YtnmkdiagbkkmaabGreatDoorRows
import GoSem.ClaimSeven
namespace Go.Proofs.YtnmkdiagbkkmaabGreatDoor
namespace Rows

/-- THE TIED CARD OF 'pairworkslaw15.DeskSure'. -/
def deskSureCard : Claim7 := { stood := { row := deskSureRow, standIns := [], harness := (true, "8731942ddfd3ab36be052e935b071bfa1697f869db36dce0aa327f73a09eedcf"), looks := true }, kinds := [], alts := [], laidByText := true, laidKinds := [.data, .data, .data, .data, .sentinel, .sentinel, .pinned], laidTests := true, laidLooks := .later }
def DeskSureCardSaid : Prop := Claim7.holds Tryz.pinned (.plain (OpenSpec.ofChange deskSureSpec)) deskSureCard

/-- THE TIED CARD OF 'pairworkslaw15.DeskApart'. -/
def deskApartCard : Claim7 := { stood := { row := deskApartRow, standIns := [], harness := (true, "8731942ddfd3ab36be052e935b071bfa1697f869db36dce0aa327f73a09eedcf"), looks := true }, kinds := [], alts := [], laidByText := true, laidKinds := [.data, .data, .data, .data, .sentinel, .sentinel, .pinned], laidTests := true, laidLooks := .later }
def DeskApartCardSaid : Prop := Claim7.holds Tryz.pinned (.plain (OpenSpec.ofChange deskApartSpec)) deskApartCard

/-- THE TIED CARD OF 'pairworkslaw15.DeskAgain'. -/
def deskAgainCard : Claim7 := { stood := { row := deskAgainRow, standIns := [], harness := (true, "8731942ddfd3ab36be052e935b071bfa1697f869db36dce0aa327f73a09eedcf"), looks := true }, kinds := [], alts := [], laidByText := true, laidKinds := [.data, .data, .data, .data, .sentinel, .sentinel, .pinned], laidTests := true, laidLooks := .later }
def DeskAgainCardSaid : Prop := Claim7.holds Tryz.pinned (.plain (OpenSpec.ofChange deskAgainSpec)) deskAgainCard

/-- THE TIED CARD OF 'pairworkslaw15.DeskNone'. -/
def deskNoneCard : Claim7 := { stood := { row := deskNoneRow, standIns := [], harness := (true, "8731942ddfd3ab36be052e935b071bfa1697f869db36dce0aa327f73a09eedcf"), looks := true }, kinds := [], alts := [], laidByText := true, laidKinds := [.data, .data, .data, .data, .sentinel, .sentinel, .pinned], laidTests := true, laidLooks := .later }
def DeskNoneCardSaid : Prop := Claim7.holds Tryz.pinned (.plain (OpenSpec.ofChange deskNoneSpec)) deskNoneCard

/-- THE SECOND FORM's CARD OF 'pairworkslaw15.DeskSure'. -/
def deskSureUptoCard : Claim7 := { stood := { row := deskSureUptoRow, standIns := [], harness := (true, "8731942ddfd3ab36be052e935b071bfa1697f869db36dce0aa327f73a09eedcf"), looks := true }, kinds := [], alts := [], laidByText := true, laidKinds := [.data, .data, .data, .data, .sentinel, .sentinel, .pinned], laidTests := true, laidLooks := .later }
def DeskSureUptoCardSaid : Prop := Claim7.holds Tryz.pinned (.plain (OpenSpec.upto deskSureSpec)) deskSureUptoCard

/-- THE SECOND FORM's CARD OF 'pairworkslaw15.DeskApart'. -/
def deskApartUptoCard : Claim7 := { stood := { row := deskApartUptoRow, standIns := [], harness := (true, "8731942ddfd3ab36be052e935b071bfa1697f869db36dce0aa327f73a09eedcf"), looks := true }, kinds := [], alts := [], laidByText := true, laidKinds := [.data, .data, .data, .data, .sentinel, .sentinel, .pinned], laidTests := true, laidLooks := .later }
def DeskApartUptoCardSaid : Prop := Claim7.holds Tryz.pinned (.plain (OpenSpec.upto deskApartSpec)) deskApartUptoCard

/-- THE SECOND FORM's CARD OF 'pairworkslaw15.DeskAgain'. -/
def deskAgainUptoCard : Claim7 := { stood := { row := deskAgainUptoRow, standIns := [], harness := (true, "8731942ddfd3ab36be052e935b071bfa1697f869db36dce0aa327f73a09eedcf"), looks := true }, kinds := [], alts := [], laidByText := true, laidKinds := [.data, .data, .data, .data, .sentinel, .sentinel, .pinned], laidTests := true, laidLooks := .later }
def DeskAgainUptoCardSaid : Prop := Claim7.holds Tryz.pinned (.plain (OpenSpec.upto deskAgainSpec)) deskAgainUptoCard

/-- THE SECOND FORM's CARD OF 'pairworkslaw15.DeskNone'. -/
def deskNoneUptoCard : Claim7 := { stood := { row := deskNoneUptoRow, standIns := [], harness := (true, "8731942ddfd3ab36be052e935b071bfa1697f869db36dce0aa327f73a09eedcf"), looks := true }, kinds := [], alts := [], laidByText := true, laidKinds := [.data, .data, .data, .data, .sentinel, .sentinel, .pinned], laidTests := true, laidLooks := .later }
def DeskNoneUptoCardSaid : Prop := Claim7.holds Tryz.pinned (.plain (OpenSpec.upto deskNoneSpec)) deskNoneUptoCard
end Rows
end Go.Proofs.YtnmkdiagbkkmaabGreatDoor
