/-
  DERIVED. GIVEN WITH THE SEED: THE CARDS: each row of YtlhdalcipflblaaDoorRows.lean that lists a variable, with what it lists TIED to the program's text (the seventh form; the later family's looks); each row that meets fmt, with fmt's text TOLD by the authors' own Lean function (tested against real Go, not proved from fmt's source: count such statements apart). THE CARD IS WHAT COUNTS. Prove the row's statement (the work); the ties are given (YtlhdalcipflblaaDoorTie.lean); close each card by the builder's one call (the guide's Derived/Test/ToyasCard.lean, 'card_holds'). Laid BY PROGRAM, IN A SANDBOX (cutbox-door.mjs). By AI agents, Wed Nov 11 2026. No macro, syntax, notation, axiom, sorry.
-/
import Derived.Test.YtlhdalcipflblaaDoorRows
import GoSem.ClaimSeven
namespace Go.Proofs.YtlhdalcipflblaaDoor
namespace Rows

/-- THE TIED CARD OF 'pairworkslaw10.HeapFits'. -/
def heapFitsCard : Claim7 := { stood := { row := heapFitsRow, standIns := [], harness := (true, "f563ca50ea74c5fe96f9240d320022ce8a900bc51df04f402a72f05e5acd4514"), looks := false }, kinds := [], alts := [], laidByText := true, laidKinds := [.data, .data, .data], laidTests := true, laidLooks := .later }
def HeapFitsCardSaid : Prop := Claim7.holds Tryd.pinned (.plain (OpenSpec.ofChange heapFitsSpec)) heapFitsCard

/-- THE TIED CARD OF 'pairworkslaw10.HeapWays'. -/
def heapWaysCard : Claim7 := { stood := { row := heapWaysRow, standIns := [], harness := (true, "f563ca50ea74c5fe96f9240d320022ce8a900bc51df04f402a72f05e5acd4514"), looks := false }, kinds := [], alts := [], laidByText := true, laidKinds := [.data, .data, .data], laidTests := true, laidLooks := .later }
def HeapWaysCardSaid : Prop := Claim7.holds Tryd.pinned (.plain (OpenSpec.ofChange heapWaysSpec)) heapWaysCard

/-- THE TIED CARD OF 'pairworkslaw10.HeapTrue'. -/
def heapTrueCard : Claim7 := { stood := { row := heapTrueRow, standIns := [], harness := (true, "f563ca50ea74c5fe96f9240d320022ce8a900bc51df04f402a72f05e5acd4514"), looks := false }, kinds := [], alts := [], laidByText := true, laidKinds := [.data, .data, .data], laidTests := true, laidLooks := .later }
def HeapTrueCardSaid : Prop := Claim7.holds Tryd.pinned (.plain (OpenSpec.ofChange heapTrueSpec)) heapTrueCard

/-- THE TIED CARD OF 'pairworkslaw10.HeapPieces'. -/
def heapPiecesCard : Claim7 := { stood := { row := heapPiecesRow, standIns := [], harness := (true, "f563ca50ea74c5fe96f9240d320022ce8a900bc51df04f402a72f05e5acd4514"), looks := false }, kinds := [], alts := [], laidByText := true, laidKinds := [.data, .data, .data], laidTests := true, laidLooks := .later }
def HeapPiecesCardSaid : Prop := Claim7.holds Tryd.pinned (.plain (OpenSpec.ofChange heapPiecesSpec)) heapPiecesCard

/-- THE TIED CARD OF 'pairworkslaw10.HeapShares'. -/
def heapSharesCard : Claim7 := { stood := { row := heapSharesRow, standIns := [], harness := (true, "f563ca50ea74c5fe96f9240d320022ce8a900bc51df04f402a72f05e5acd4514"), looks := false }, kinds := [], alts := [], laidByText := true, laidKinds := [.data, .data, .data], laidTests := true, laidLooks := .later }
def HeapSharesCardSaid : Prop := Claim7.holds Tryd.pinned (.plain (OpenSpec.ofChange heapSharesSpec)) heapSharesCard

/-- THE TIED CARD OF 'pairworkslaw10.HeapFirst'. -/
def heapFirstCard : Claim7 := { stood := { row := heapFirstRow, standIns := [], harness := (true, "f563ca50ea74c5fe96f9240d320022ce8a900bc51df04f402a72f05e5acd4514"), looks := false }, kinds := [], alts := [], laidByText := true, laidKinds := [.data, .data, .data], laidTests := true, laidLooks := .later }
def HeapFirstCardSaid : Prop := Claim7.holds Tryd.pinned (.plain (OpenSpec.ofChange heapFirstSpec)) heapFirstCard

/-- THE TIED CARD OF 'pairworkslaw10.HeapWhy'. -/
def heapWhyCard : Claim7 := { stood := { row := heapWhyRow, standIns := [], harness := (true, "f563ca50ea74c5fe96f9240d320022ce8a900bc51df04f402a72f05e5acd4514"), looks := false }, kinds := [], alts := [], laidByText := true, laidKinds := [.data, .data, .data], laidTests := true, laidLooks := .later }
def HeapWhyCardSaid : Prop := Claim7.holds Tryd.pinned (.plain (OpenSpec.ofChange heapWhySpec)) heapWhyCard

/-- THE TIED CARD OF 'pairworkslaw10.HeapMore'. -/
def heapMoreCard : Claim7 := { stood := { row := heapMoreRow, standIns := [], harness := (true, "f563ca50ea74c5fe96f9240d320022ce8a900bc51df04f402a72f05e5acd4514"), looks := false }, kinds := [], alts := [], laidByText := true, laidKinds := [.data, .data, .data], laidTests := true, laidLooks := .later }
def HeapMoreCardSaid : Prop := Claim7.holds Tryd.pinned (.plain (OpenSpec.ofChange heapMoreSpec)) heapMoreCard

/-- THE TIED CARD OF 'pairworkslaw10.HeapTurned'. -/
def heapTurnedCard : Claim7 := { stood := { row := heapTurnedRow, standIns := [], harness := (true, "f563ca50ea74c5fe96f9240d320022ce8a900bc51df04f402a72f05e5acd4514"), looks := false }, kinds := [], alts := [], laidByText := true, laidKinds := [.data, .data, .data], laidTests := true, laidLooks := .later }
def HeapTurnedCardSaid : Prop := Claim7.holds Tryd.pinned (.plain (OpenSpec.ofChange heapTurnedSpec)) heapTurnedCard

/-- THE SECOND FORM's CARD OF 'pairworkslaw10.HeapFits'. -/
def heapFitsUptoCard : Claim7 := { stood := { row := heapFitsUptoRow, standIns := [], harness := (true, "f563ca50ea74c5fe96f9240d320022ce8a900bc51df04f402a72f05e5acd4514"), looks := false }, kinds := [], alts := [], laidByText := true, laidKinds := [.data, .data, .data], laidTests := true, laidLooks := .later }
def HeapFitsUptoCardSaid : Prop := Claim7.holds Tryd.pinned (.plain (OpenSpec.upto heapFitsSpec)) heapFitsUptoCard

/-- THE SECOND FORM's CARD OF 'pairworkslaw10.HeapWays'. -/
def heapWaysUptoCard : Claim7 := { stood := { row := heapWaysUptoRow, standIns := [], harness := (true, "f563ca50ea74c5fe96f9240d320022ce8a900bc51df04f402a72f05e5acd4514"), looks := false }, kinds := [], alts := [], laidByText := true, laidKinds := [.data, .data, .data], laidTests := true, laidLooks := .later }
def HeapWaysUptoCardSaid : Prop := Claim7.holds Tryd.pinned (.plain (OpenSpec.upto heapWaysSpec)) heapWaysUptoCard

/-- THE SECOND FORM's CARD OF 'pairworkslaw10.HeapTrue'. -/
def heapTrueUptoCard : Claim7 := { stood := { row := heapTrueUptoRow, standIns := [], harness := (true, "f563ca50ea74c5fe96f9240d320022ce8a900bc51df04f402a72f05e5acd4514"), looks := false }, kinds := [], alts := [], laidByText := true, laidKinds := [.data, .data, .data], laidTests := true, laidLooks := .later }
def HeapTrueUptoCardSaid : Prop := Claim7.holds Tryd.pinned (.plain (OpenSpec.upto heapTrueSpec)) heapTrueUptoCard

/-- THE SECOND FORM's CARD OF 'pairworkslaw10.HeapPieces'. -/
def heapPiecesUptoCard : Claim7 := { stood := { row := heapPiecesUptoRow, standIns := [], harness := (true, "f563ca50ea74c5fe96f9240d320022ce8a900bc51df04f402a72f05e5acd4514"), looks := false }, kinds := [], alts := [], laidByText := true, laidKinds := [.data, .data, .data], laidTests := true, laidLooks := .later }
def HeapPiecesUptoCardSaid : Prop := Claim7.holds Tryd.pinned (.plain (OpenSpec.upto heapPiecesSpec)) heapPiecesUptoCard

/-- THE SECOND FORM's CARD OF 'pairworkslaw10.HeapShares'. -/
def heapSharesUptoCard : Claim7 := { stood := { row := heapSharesUptoRow, standIns := [], harness := (true, "f563ca50ea74c5fe96f9240d320022ce8a900bc51df04f402a72f05e5acd4514"), looks := false }, kinds := [], alts := [], laidByText := true, laidKinds := [.data, .data, .data], laidTests := true, laidLooks := .later }
def HeapSharesUptoCardSaid : Prop := Claim7.holds Tryd.pinned (.plain (OpenSpec.upto heapSharesSpec)) heapSharesUptoCard

/-- THE SECOND FORM's CARD OF 'pairworkslaw10.HeapFirst'. -/
def heapFirstUptoCard : Claim7 := { stood := { row := heapFirstUptoRow, standIns := [], harness := (true, "f563ca50ea74c5fe96f9240d320022ce8a900bc51df04f402a72f05e5acd4514"), looks := false }, kinds := [], alts := [], laidByText := true, laidKinds := [.data, .data, .data], laidTests := true, laidLooks := .later }
def HeapFirstUptoCardSaid : Prop := Claim7.holds Tryd.pinned (.plain (OpenSpec.upto heapFirstSpec)) heapFirstUptoCard

/-- THE SECOND FORM's CARD OF 'pairworkslaw10.HeapWhy'. -/
def heapWhyUptoCard : Claim7 := { stood := { row := heapWhyUptoRow, standIns := [], harness := (true, "f563ca50ea74c5fe96f9240d320022ce8a900bc51df04f402a72f05e5acd4514"), looks := false }, kinds := [], alts := [], laidByText := true, laidKinds := [.data, .data, .data], laidTests := true, laidLooks := .later }
def HeapWhyUptoCardSaid : Prop := Claim7.holds Tryd.pinned (.plain (OpenSpec.upto heapWhySpec)) heapWhyUptoCard

/-- THE SECOND FORM's CARD OF 'pairworkslaw10.HeapMore'. -/
def heapMoreUptoCard : Claim7 := { stood := { row := heapMoreUptoRow, standIns := [], harness := (true, "f563ca50ea74c5fe96f9240d320022ce8a900bc51df04f402a72f05e5acd4514"), looks := false }, kinds := [], alts := [], laidByText := true, laidKinds := [.data, .data, .data], laidTests := true, laidLooks := .later }
def HeapMoreUptoCardSaid : Prop := Claim7.holds Tryd.pinned (.plain (OpenSpec.upto heapMoreSpec)) heapMoreUptoCard

/-- THE SECOND FORM's CARD OF 'pairworkslaw10.HeapTurned'. -/
def heapTurnedUptoCard : Claim7 := { stood := { row := heapTurnedUptoRow, standIns := [], harness := (true, "f563ca50ea74c5fe96f9240d320022ce8a900bc51df04f402a72f05e5acd4514"), looks := false }, kinds := [], alts := [], laidByText := true, laidKinds := [.data, .data, .data], laidTests := true, laidLooks := .later }
def HeapTurnedUptoCardSaid : Prop := Claim7.holds Tryd.pinned (.plain (OpenSpec.upto heapTurnedSpec)) heapTurnedUptoCard
end Rows
end Go.Proofs.YtlhdalcipflblaaDoor
