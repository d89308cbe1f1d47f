/-
  DERIVED. GIVEN WITH THE SEED: THE CARDS: each row of YtmkdbdbenfbkhaaGreatDoorRows.lean that lists a variable, with what it lists TIED to the program's text (the seventh form; the later family's looks); each row that meets fmt, with fmt's text TOLD by the authors' own Lean function (tested against real Go, not proved from fmt's source: count such statements apart). THE CARD IS WHAT COUNTS. Prove the row's statement (the work); the ties are given (YtmkdbdbenfbkhaaGreatDoorTie.lean); close each card by the builder's one call (the guide's Derived/Test/ToyasCard.lean, 'card_holds'). Laid BY PROGRAM, IN A SANDBOX (cutbox-door.mjs). By AI agents, Wed Nov 11 2026. No macro, syntax, notation, axiom, sorry.
-/
import Derived.Test.YtmkdbdbenfbkhaaGreatDoorRows
import GoSem.ClaimSeven
namespace Go.Proofs.YtmkdbdbenfbkhaaGreatDoor
namespace Rows

/-- THE TIED CARD OF 'pairworkstop.TopLawful'. -/
def topLawfulCard : Claim7 := { stood := { row := topLawfulRow, standIns := [], harness := (true, "132c57a4c6f845d11ab00c9501076e6c77f8adfa57c0f4c7d51f4dfc9c62e745"), looks := true }, kinds := [], alts := [], laidByText := true, laidKinds := [.data, .data, .data, .data, .sentinel, .sentinel, .pinned], laidTests := true, laidLooks := .later }
def TopLawfulCardSaid : Prop := Claim7.holds Tryz.pinned (.plain (OpenSpec.ofChange topLawfulSpec)) topLawfulCard

/-- THE TIED CARD OF 'pairworkstop.TopPapers'. -/
def topPapersCard : Claim7 := { stood := { row := topPapersRow, standIns := [], harness := (true, "132c57a4c6f845d11ab00c9501076e6c77f8adfa57c0f4c7d51f4dfc9c62e745"), looks := true }, kinds := [], alts := [], laidByText := true, laidKinds := [.data, .data, .data, .data, .sentinel, .sentinel, .pinned], laidTests := true, laidLooks := .later }
def TopPapersCardSaid : Prop := Claim7.holds Tryz.pinned (.plain (OpenSpec.ofChange topPapersSpec)) topPapersCard

/-- THE SECOND FORM's CARD OF 'pairworkstop.TopLawful'. -/
def topLawfulUptoCard : Claim7 := { stood := { row := topLawfulUptoRow, standIns := [], harness := (true, "132c57a4c6f845d11ab00c9501076e6c77f8adfa57c0f4c7d51f4dfc9c62e745"), looks := true }, kinds := [], alts := [], laidByText := true, laidKinds := [.data, .data, .data, .data, .sentinel, .sentinel, .pinned], laidTests := true, laidLooks := .later }
def TopLawfulUptoCardSaid : Prop := Claim7.holds Tryz.pinned (.plain (OpenSpec.upto topLawfulSpec)) topLawfulUptoCard

/-- THE SECOND FORM's CARD OF 'pairworkstop.TopPapers'. -/
def topPapersUptoCard : Claim7 := { stood := { row := topPapersUptoRow, standIns := [], harness := (true, "132c57a4c6f845d11ab00c9501076e6c77f8adfa57c0f4c7d51f4dfc9c62e745"), looks := true }, kinds := [], alts := [], laidByText := true, laidKinds := [.data, .data, .data, .data, .sentinel, .sentinel, .pinned], laidTests := true, laidLooks := .later }
def TopPapersUptoCardSaid : Prop := Claim7.holds Tryz.pinned (.plain (OpenSpec.upto topPapersSpec)) topPapersUptoCard
end Rows
end Go.Proofs.YtmkdbdbenfbkhaaGreatDoor
