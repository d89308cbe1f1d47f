/-
  DERIVED. GIVEN WITH THE SEED: THE CARDS: each row of YtnmkdiagbkkmaaaGreatDoorRows.lean that lists a variable, with what it lists TIED to the program's text (the seventh form; the later family's looks); each row that meets fmt, with fmt's text TOLD by the authors' own Lean function (tested against real Go, not proved from fmt's source: count such statements apart). THE CARD IS WHAT COUNTS. Prove the row's statement (the work); the ties are given (YtnmkdiagbkkmaaaGreatDoorTie.lean); close each card by the builder's one call (the guide's Derived/Test/ToyasCard.lean, 'card_holds'). Laid BY PROGRAM, IN A SANDBOX (cutbox-door.mjs). By AI agents, Wed Nov 11 2026. No macro, syntax, notation, axiom, sorry.
-/
import Derived.Test.YtnmkdiagbkkmaaaGreatDoorRows
import GoSem.ClaimSeven
namespace Go.Proofs.YtnmkdiagbkkmaaaGreatDoor
namespace Rows

/-- THE TIED CARD OF 'pairworkslaw15.DeskRuns'. -/
def deskRunsCard : Claim7 := { stood := { row := deskRunsRow, standIns := [], harness := (true, "0c1c23679fa8964f42d791414f64334e699af7c782f5bc973d5a4775a7bd7dad"), looks := true }, kinds := [], alts := [], laidByText := true, laidKinds := [.data, .data, .data, .data, .sentinel, .sentinel, .pinned], laidTests := true, laidLooks := .later }
def DeskRunsCardSaid : Prop := Claim7.holds Tryz.pinned (.plain (OpenSpec.ofChange deskRunsSpec)) deskRunsCard

/-- THE TIED CARD OF 'pairworkslaw15.DeskLines'. -/
def deskLinesCard : Claim7 := { stood := { row := deskLinesRow, standIns := [], harness := (true, "0c1c23679fa8964f42d791414f64334e699af7c782f5bc973d5a4775a7bd7dad"), looks := true }, kinds := [], alts := [], laidByText := true, laidKinds := [.data, .data, .data, .data, .sentinel, .sentinel, .pinned], laidTests := true, laidLooks := .later }
def DeskLinesCardSaid : Prop := Claim7.holds Tryz.pinned (.plain (OpenSpec.ofChange deskLinesSpec)) deskLinesCard

/-- THE TIED CARD OF 'pairworkslaw15.DeskRight'. -/
def deskRightCard : Claim7 := { stood := { row := deskRightRow, standIns := [], harness := (true, "0c1c23679fa8964f42d791414f64334e699af7c782f5bc973d5a4775a7bd7dad"), looks := true }, kinds := [], alts := [], laidByText := true, laidKinds := [.data, .data, .data, .data, .sentinel, .sentinel, .pinned], laidTests := true, laidLooks := .later }
def DeskRightCardSaid : Prop := Claim7.holds Tryz.pinned (.plain (OpenSpec.ofChange deskRightSpec)) deskRightCard

/-- THE TIED CARD OF 'pairworkslaw15.DeskCut'. -/
def deskCutCard : Claim7 := { stood := { row := deskCutRow, standIns := [], harness := (true, "0c1c23679fa8964f42d791414f64334e699af7c782f5bc973d5a4775a7bd7dad"), looks := true }, kinds := [], alts := [], laidByText := true, laidKinds := [.data, .data, .data, .data, .sentinel, .sentinel, .pinned], laidTests := true, laidLooks := .later }
def DeskCutCardSaid : Prop := Claim7.holds Tryz.pinned (.plain (OpenSpec.ofChange deskCutSpec)) deskCutCard

/-- THE TIED CARD OF 'pairworkslaw15.DeskSays'. -/
def deskSaysCard : Claim7 := { stood := { row := deskSaysRow, standIns := [], harness := (true, "0c1c23679fa8964f42d791414f64334e699af7c782f5bc973d5a4775a7bd7dad"), looks := true }, kinds := [], alts := [], laidByText := true, laidKinds := [.data, .data, .data, .data, .sentinel, .sentinel, .pinned], laidTests := true, laidLooks := .later }
def DeskSaysCardSaid : Prop := Claim7.holds Tryz.pinned (.plain (OpenSpec.ofChange deskSaysSpec)) deskSaysCard

/-- THE SECOND FORM's CARD OF 'pairworkslaw15.DeskRuns'. -/
def deskRunsUptoCard : Claim7 := { stood := { row := deskRunsUptoRow, standIns := [], harness := (true, "0c1c23679fa8964f42d791414f64334e699af7c782f5bc973d5a4775a7bd7dad"), looks := true }, kinds := [], alts := [], laidByText := true, laidKinds := [.data, .data, .data, .data, .sentinel, .sentinel, .pinned], laidTests := true, laidLooks := .later }
def DeskRunsUptoCardSaid : Prop := Claim7.holds Tryz.pinned (.plain (OpenSpec.upto deskRunsSpec)) deskRunsUptoCard

/-- THE SECOND FORM's CARD OF 'pairworkslaw15.DeskLines'. -/
def deskLinesUptoCard : Claim7 := { stood := { row := deskLinesUptoRow, standIns := [], harness := (true, "0c1c23679fa8964f42d791414f64334e699af7c782f5bc973d5a4775a7bd7dad"), looks := true }, kinds := [], alts := [], laidByText := true, laidKinds := [.data, .data, .data, .data, .sentinel, .sentinel, .pinned], laidTests := true, laidLooks := .later }
def DeskLinesUptoCardSaid : Prop := Claim7.holds Tryz.pinned (.plain (OpenSpec.upto deskLinesSpec)) deskLinesUptoCard

/-- THE SECOND FORM's CARD OF 'pairworkslaw15.DeskRight'. -/
def deskRightUptoCard : Claim7 := { stood := { row := deskRightUptoRow, standIns := [], harness := (true, "0c1c23679fa8964f42d791414f64334e699af7c782f5bc973d5a4775a7bd7dad"), looks := true }, kinds := [], alts := [], laidByText := true, laidKinds := [.data, .data, .data, .data, .sentinel, .sentinel, .pinned], laidTests := true, laidLooks := .later }
def DeskRightUptoCardSaid : Prop := Claim7.holds Tryz.pinned (.plain (OpenSpec.upto deskRightSpec)) deskRightUptoCard

/-- THE SECOND FORM's CARD OF 'pairworkslaw15.DeskCut'. -/
def deskCutUptoCard : Claim7 := { stood := { row := deskCutUptoRow, standIns := [], harness := (true, "0c1c23679fa8964f42d791414f64334e699af7c782f5bc973d5a4775a7bd7dad"), looks := true }, kinds := [], alts := [], laidByText := true, laidKinds := [.data, .data, .data, .data, .sentinel, .sentinel, .pinned], laidTests := true, laidLooks := .later }
def DeskCutUptoCardSaid : Prop := Claim7.holds Tryz.pinned (.plain (OpenSpec.upto deskCutSpec)) deskCutUptoCard

/-- THE SECOND FORM's CARD OF 'pairworkslaw15.DeskSays'. -/
def deskSaysUptoCard : Claim7 := { stood := { row := deskSaysUptoRow, standIns := [], harness := (true, "0c1c23679fa8964f42d791414f64334e699af7c782f5bc973d5a4775a7bd7dad"), looks := true }, kinds := [], alts := [], laidByText := true, laidKinds := [.data, .data, .data, .data, .sentinel, .sentinel, .pinned], laidTests := true, laidLooks := .later }
def DeskSaysUptoCardSaid : Prop := Claim7.holds Tryz.pinned (.plain (OpenSpec.upto deskSaysSpec)) deskSaysUptoCard
end Rows
end Go.Proofs.YtnmkdiagbkkmaaaGreatDoor
