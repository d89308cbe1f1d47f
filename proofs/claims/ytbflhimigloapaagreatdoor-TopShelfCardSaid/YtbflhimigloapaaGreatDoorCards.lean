/-
  DERIVED. GIVEN WITH THE SEED: THE CARDS: each row of YtbflhimigloapaaGreatDoorRows.lean that lists a variable, with what it lists TIED to the program's text (the seventh form; the later family's looks); each row that meets fmt, with fmt's text TOLD by the authors' own Lean function (tested against real Go, not proved from fmt's source: count such statements apart). THE CARD IS WHAT COUNTS. Prove the row's statement (the work); the ties are given (YtbflhimigloapaaGreatDoorTie.lean); close each card by the builder's one call (the guide's Derived/Test/ToyasCard.lean, 'card_holds'). Laid BY PROGRAM, IN A SANDBOX (cutbox-door.mjs). By AI agents, Wed Nov 11 2026. No macro, syntax, notation, axiom, sorry.
-/
import Derived.Test.YtbflhimigloapaaGreatDoorRows
import GoSem.ClaimSeven
namespace Go.Proofs.YtbflhimigloapaaGreatDoor
namespace Rows

/-- THE TIED CARD OF 'pairworkstop.TopYears'. -/
def topYearsCard : Claim7 := { stood := { row := topYearsRow, standIns := [], harness := (true, "6bb436dd5b42f29697afe784046c16e77bf88e076498681904c12d96ebedf0b9"), looks := true }, kinds := [], alts := [], laidByText := true, laidKinds := [.data, .data, .data, .data, .sentinel, .sentinel, .pinned], laidTests := true, laidLooks := .later }
def TopYearsCardSaid : Prop := Claim7.holds Tryz.pinned (.plain (OpenSpec.ofChange topYearsSpec)) topYearsCard

/-- THE TIED CARD OF 'pairworkstop.TopShelf'. -/
def topShelfCard : Claim7 := { stood := { row := topShelfRow, standIns := [], harness := (true, "6bb436dd5b42f29697afe784046c16e77bf88e076498681904c12d96ebedf0b9"), looks := true }, kinds := [], alts := [], laidByText := true, laidKinds := [.data, .data, .data, .data, .sentinel, .sentinel, .pinned], laidTests := true, laidLooks := .later }
def TopShelfCardSaid : Prop := Claim7.holds Tryz.pinned (.plain (OpenSpec.ofChange topShelfSpec)) topShelfCard

/-- THE SECOND FORM's CARD OF 'pairworkstop.TopYears'. -/
def topYearsUptoCard : Claim7 := { stood := { row := topYearsUptoRow, standIns := [], harness := (true, "6bb436dd5b42f29697afe784046c16e77bf88e076498681904c12d96ebedf0b9"), looks := true }, kinds := [], alts := [], laidByText := true, laidKinds := [.data, .data, .data, .data, .sentinel, .sentinel, .pinned], laidTests := true, laidLooks := .later }
def TopYearsUptoCardSaid : Prop := Claim7.holds Tryz.pinned (.plain (OpenSpec.upto topYearsSpec)) topYearsUptoCard

/-- THE SECOND FORM's CARD OF 'pairworkstop.TopShelf'. -/
def topShelfUptoCard : Claim7 := { stood := { row := topShelfUptoRow, standIns := [], harness := (true, "6bb436dd5b42f29697afe784046c16e77bf88e076498681904c12d96ebedf0b9"), looks := true }, kinds := [], alts := [], laidByText := true, laidKinds := [.data, .data, .data, .data, .sentinel, .sentinel, .pinned], laidTests := true, laidLooks := .later }
def TopShelfUptoCardSaid : Prop := Claim7.holds Tryz.pinned (.plain (OpenSpec.upto topShelfSpec)) topShelfUptoCard
end Rows
end Go.Proofs.YtbflhimigloapaaGreatDoor
