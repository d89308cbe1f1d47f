/-
  NARROWER THAN 'FOR EVERY INPUT', by the rows' own cells (each row's printed sentence says how): HeapFits: laid · HeapWays: laid · HeapTrue: laid · HeapPieces: laid · HeapShares: laid · HeapFirst: laid · HeapWhy: laid · HeapMore: laid · HeapTurned: laid.
  DERIVED. THE GIVEN ROWS OF THIS SEAT. 9 by the template 'for every input the law returns true; each argument reads behind the call as it read before'; 0 by the template 'total and deterministic' (their statements: YtlhdalcipflblaaDoorTotals.lean).
  GIVEN WITH THE SEED: the statements are not yours to turn. If you find one false, say at which input.
  Laid BY PROGRAM, IN A SANDBOX (cutbox-rows.mjs): the forced cells as the released guide's own fill.sh prints them over the translation 0c8d2e469bccde3d… (all of the seat's roots in one cut). By AI agents, Wed Nov 11 2026. No macro, syntax, notation, axiom, sorry.
-/
import Derived.Test.YtlhdalcipflblaaDoorChecked
import GoSem.Claim
import GoSem.ClaimJoined
import GoSem.ClaimMapViews
import Derived.JoinedTies
import Derived.KernelRfl
namespace Go.Proofs.YtlhdalcipflblaaDoor
/- THE CELL 'sum', in the pinned program and in every row, IS THE sha256 OF THE DUMP (.gsa) THAT YtlhdalcipflblaaDoorProg.lean LOADS. Nothing in Lean hashes anything: it is a label: what it is worth is what the hold of that sum in a sandbox is worth. -/
noncomputable def Tryd.pinned : Pinned := { name := "ytlhdalcipflblaadoor", sum := "0c8d2e469bccde3d12e51da40d1e137e19219dbfc69ca5166c56905cddb7b95f", checked := Tryd.checked }
namespace Rows
def none {H : Type} : Left H := { results := [], args := [] }

/- WHAT THE LISTED PACKAGE-LEVEL VARIABLES READ AS WHEN THE CALL BEGINS. Each datum BY PROGRAM (the guide's laid-datum.mjs) off the statement by which the dump's own 'gosem.cut.vars' lays the variable. In a bare row this is a premise. The card (YtlhdalcipflblaaDoorCards.lean) ties it to the program's text. -/
def laid_math_bits_deBruijn32tab {H : Type} : DataW H := .agg [.lit (.int .u8 0), .lit (.int .u8 1), .lit (.int .u8 28), .lit (.int .u8 2), .lit (.int .u8 29), .lit (.int .u8 14), .lit (.int .u8 24), .lit (.int .u8 3), .lit (.int .u8 30), .lit (.int .u8 22), .lit (.int .u8 20), .lit (.int .u8 15), .lit (.int .u8 25), .lit (.int .u8 17), .lit (.int .u8 4), .lit (.int .u8 8), .lit (.int .u8 31), .lit (.int .u8 27), .lit (.int .u8 13), .lit (.int .u8 23), .lit (.int .u8 21), .lit (.int .u8 19), .lit (.int .u8 16), .lit (.int .u8 7), .lit (.int .u8 26), .lit (.int .u8 12), .lit (.int .u8 18), .lit (.int .u8 6), .lit (.int .u8 11), .lit (.int .u8 5), .lit (.int .u8 10), .lit (.int .u8 9)]
def laid_math_bits_deBruijn64tab {H : Type} : DataW H := .agg [.lit (.int .u8 0), .lit (.int .u8 1), .lit (.int .u8 56), .lit (.int .u8 2), .lit (.int .u8 57), .lit (.int .u8 49), .lit (.int .u8 28), .lit (.int .u8 3), .lit (.int .u8 61), .lit (.int .u8 58), .lit (.int .u8 42), .lit (.int .u8 50), .lit (.int .u8 38), .lit (.int .u8 29), .lit (.int .u8 17), .lit (.int .u8 4), .lit (.int .u8 62), .lit (.int .u8 47), .lit (.int .u8 59), .lit (.int .u8 36), .lit (.int .u8 45), .lit (.int .u8 43), .lit (.int .u8 51), .lit (.int .u8 22), .lit (.int .u8 53), .lit (.int .u8 39), .lit (.int .u8 33), .lit (.int .u8 30), .lit (.int .u8 24), .lit (.int .u8 18), .lit (.int .u8 12), .lit (.int .u8 5), .lit (.int .u8 63), .lit (.int .u8 55), .lit (.int .u8 48), .lit (.int .u8 27), .lit (.int .u8 60), .lit (.int .u8 41), .lit (.int .u8 37), .lit (.int .u8 16), .lit (.int .u8 46), .lit (.int .u8 35), .lit (.int .u8 44), .lit (.int .u8 21), .lit (.int .u8 52), .lit (.int .u8 32), .lit (.int .u8 23), .lit (.int .u8 11), .lit (.int .u8 54), .lit (.int .u8 26), .lit (.int .u8 40), .lit (.int .u8 15), .lit (.int .u8 34), .lit (.int .u8 20), .lit (.int .u8 31), .lit (.int .u8 10), .lit (.int .u8 25), .lit (.int .u8 14), .lit (.int .u8 19), .lit (.int .u8 9), .lit (.int .u8 13), .lit (.int .u8 8), .lit (.int .u8 7), .lit (.int .u8 6)]
def laid_internal_strconv_uint64pow10 {H : Type} : DataW H := .agg [.lit (.int .u64 1), .lit (.int .u64 10), .lit (.int .u64 100), .lit (.int .u64 1000), .lit (.int .u64 10000), .lit (.int .u64 100000), .lit (.int .u64 1000000), .lit (.int .u64 10000000), .lit (.int .u64 100000000), .lit (.int .u64 1000000000), .lit (.int .u64 10000000000), .lit (.int .u64 100000000000), .lit (.int .u64 1000000000000), .lit (.int .u64 10000000000000), .lit (.int .u64 100000000000000), .lit (.int .u64 1000000000000000), .lit (.int .u64 10000000000000000), .lit (.int .u64 100000000000000000), .lit (.int .u64 1000000000000000000), .lit (.int .u64 10000000000000000000)]

/-- 'pairworkslaw10.HeapFits': WHATEVER THE INPUT: true; the input reads as it did. -/
def heapFitsSpec : ChangeSpec := { name := "heapFits", fn := fun _ => fun
  | [d1, d2] => { results := [.lit (.bool true)], args := [d1, d2] }
  | _ => none }
def heapFitsRow : OpenClaim := { program := "ytlhdalcipflblaadoor", sum := "0c8d2e469bccde3d12e51da40d1e137e19219dbfc69ca5166c56905cddb7b95f", func := "pairworks/pairworkslaw10.HeapFits", spec := "heapFits", inPlace := ["internal/bytealg.IndexByteString", "internal/bytealg.IndexString"], unfollowed := true, recurses := true, named := ["internal/strconv.uint64pow10", "math/bits.deBruijn32tab", "math/bits.deBruijn64tab", "internal/bytealg.MaxLen"], plainKeys := false, apart := false, laid := [("math/bits.deBruijn32tab", laid_math_bits_deBruijn32tab), ("math/bits.deBruijn64tab", laid_math_bits_deBruijn64tab), ("internal/strconv.uint64pow10", laid_internal_strconv_uint64pow10)] }
def HeapFitsSaid : Prop := heapFitsRow.holds Tryd.pinned (OpenSpec.ofChange heapFitsSpec)

/-- ITS FALSE NEIGHBOUR: 'it returns false'. Refute it at one input. -/
def heapFitsWrong : ChangeSpec := { name := "heapFits", fn := fun _ => fun
  | [d1, d2] => { results := [.lit (.bool false)], args := [d1, d2] }
  | _ => none }
def HeapFitsWrongFalsely : Prop := heapFitsRow.holds Tryd.pinned (OpenSpec.ofChange heapFitsWrong)

/-- 'pairworkslaw10.HeapWays': WHATEVER THE INPUT: true; the input reads as it did. -/
def heapWaysSpec : ChangeSpec := { name := "heapWays", fn := fun _ => fun
  | [d1, d2, d3] => { results := [.lit (.bool true)], args := [d1, d2, d3] }
  | _ => none }
def heapWaysRow : OpenClaim := { program := "ytlhdalcipflblaadoor", sum := "0c8d2e469bccde3d12e51da40d1e137e19219dbfc69ca5166c56905cddb7b95f", func := "pairworks/pairworkslaw10.HeapWays", spec := "heapWays", inPlace := ["internal/bytealg.IndexByteString", "internal/bytealg.IndexString"], unfollowed := true, recurses := true, named := ["internal/strconv.uint64pow10", "math/bits.deBruijn32tab", "math/bits.deBruijn64tab", "internal/bytealg.MaxLen"], plainKeys := false, apart := false, laid := [("math/bits.deBruijn32tab", laid_math_bits_deBruijn32tab), ("math/bits.deBruijn64tab", laid_math_bits_deBruijn64tab), ("internal/strconv.uint64pow10", laid_internal_strconv_uint64pow10)] }
def HeapWaysSaid : Prop := heapWaysRow.holds Tryd.pinned (OpenSpec.ofChange heapWaysSpec)

/-- ITS FALSE NEIGHBOUR: 'it returns false'. Refute it at one input. -/
def heapWaysWrong : ChangeSpec := { name := "heapWays", fn := fun _ => fun
  | [d1, d2, d3] => { results := [.lit (.bool false)], args := [d1, d2, d3] }
  | _ => none }
def HeapWaysWrongFalsely : Prop := heapWaysRow.holds Tryd.pinned (OpenSpec.ofChange heapWaysWrong)

/-- 'pairworkslaw10.HeapTrue': WHATEVER THE INPUT: true; the input reads as it did. -/
def heapTrueSpec : ChangeSpec := { name := "heapTrue", fn := fun _ => fun
  | [d1, d2] => { results := [.lit (.bool true)], args := [d1, d2] }
  | _ => none }
def heapTrueRow : OpenClaim := { program := "ytlhdalcipflblaadoor", sum := "0c8d2e469bccde3d12e51da40d1e137e19219dbfc69ca5166c56905cddb7b95f", func := "pairworks/pairworkslaw10.HeapTrue", spec := "heapTrue", inPlace := ["internal/bytealg.IndexByteString", "internal/bytealg.IndexString"], unfollowed := true, recurses := true, named := ["internal/strconv.uint64pow10", "math/bits.deBruijn32tab", "math/bits.deBruijn64tab", "internal/bytealg.MaxLen"], plainKeys := false, apart := false, laid := [("math/bits.deBruijn32tab", laid_math_bits_deBruijn32tab), ("math/bits.deBruijn64tab", laid_math_bits_deBruijn64tab), ("internal/strconv.uint64pow10", laid_internal_strconv_uint64pow10)] }
def HeapTrueSaid : Prop := heapTrueRow.holds Tryd.pinned (OpenSpec.ofChange heapTrueSpec)

/-- ITS FALSE NEIGHBOUR: 'it returns false'. Refute it at one input. -/
def heapTrueWrong : ChangeSpec := { name := "heapTrue", fn := fun _ => fun
  | [d1, d2] => { results := [.lit (.bool false)], args := [d1, d2] }
  | _ => none }
def HeapTrueWrongFalsely : Prop := heapTrueRow.holds Tryd.pinned (OpenSpec.ofChange heapTrueWrong)

/-- 'pairworkslaw10.HeapPieces': WHATEVER THE INPUT: true; the input reads as it did. -/
def heapPiecesSpec : ChangeSpec := { name := "heapPieces", fn := fun _ => fun
  | [d1, d2, d3] => { results := [.lit (.bool true)], args := [d1, d2, d3] }
  | _ => none }
def heapPiecesRow : OpenClaim := { program := "ytlhdalcipflblaadoor", sum := "0c8d2e469bccde3d12e51da40d1e137e19219dbfc69ca5166c56905cddb7b95f", func := "pairworks/pairworkslaw10.HeapPieces", spec := "heapPieces", inPlace := ["internal/bytealg.IndexByteString", "internal/bytealg.IndexString"], unfollowed := true, recurses := true, named := ["internal/strconv.uint64pow10", "math/bits.deBruijn32tab", "math/bits.deBruijn64tab", "internal/bytealg.MaxLen"], plainKeys := false, apart := false, laid := [("math/bits.deBruijn32tab", laid_math_bits_deBruijn32tab), ("math/bits.deBruijn64tab", laid_math_bits_deBruijn64tab), ("internal/strconv.uint64pow10", laid_internal_strconv_uint64pow10)] }
def HeapPiecesSaid : Prop := heapPiecesRow.holds Tryd.pinned (OpenSpec.ofChange heapPiecesSpec)

/-- ITS FALSE NEIGHBOUR: 'it returns false'. Refute it at one input. -/
def heapPiecesWrong : ChangeSpec := { name := "heapPieces", fn := fun _ => fun
  | [d1, d2, d3] => { results := [.lit (.bool false)], args := [d1, d2, d3] }
  | _ => none }
def HeapPiecesWrongFalsely : Prop := heapPiecesRow.holds Tryd.pinned (OpenSpec.ofChange heapPiecesWrong)

/-- 'pairworkslaw10.HeapShares': WHATEVER THE INPUT: true; the input reads as it did. -/
def heapSharesSpec : ChangeSpec := { name := "heapShares", fn := fun _ => fun
  | [d] => { results := [.lit (.bool true)], args := [d] }
  | _ => none }
def heapSharesRow : OpenClaim := { program := "ytlhdalcipflblaadoor", sum := "0c8d2e469bccde3d12e51da40d1e137e19219dbfc69ca5166c56905cddb7b95f", func := "pairworks/pairworkslaw10.HeapShares", spec := "heapShares", inPlace := ["internal/bytealg.IndexByteString", "internal/bytealg.IndexString"], unfollowed := true, recurses := true, named := ["internal/strconv.uint64pow10", "math/bits.deBruijn32tab", "math/bits.deBruijn64tab", "internal/bytealg.MaxLen"], plainKeys := false, apart := false, laid := [("math/bits.deBruijn32tab", laid_math_bits_deBruijn32tab), ("math/bits.deBruijn64tab", laid_math_bits_deBruijn64tab), ("internal/strconv.uint64pow10", laid_internal_strconv_uint64pow10)] }
def HeapSharesSaid : Prop := heapSharesRow.holds Tryd.pinned (OpenSpec.ofChange heapSharesSpec)

/-- ITS FALSE NEIGHBOUR: 'it returns false'. Refute it at one input. -/
def heapSharesWrong : ChangeSpec := { name := "heapShares", fn := fun _ => fun
  | [d] => { results := [.lit (.bool false)], args := [d] }
  | _ => none }
def HeapSharesWrongFalsely : Prop := heapSharesRow.holds Tryd.pinned (OpenSpec.ofChange heapSharesWrong)

/-- 'pairworkslaw10.HeapFirst': WHATEVER THE INPUT: true; the input reads as it did. -/
def heapFirstSpec : ChangeSpec := { name := "heapFirst", fn := fun _ => fun
  | [d1, d2] => { results := [.lit (.bool true)], args := [d1, d2] }
  | _ => none }
def heapFirstRow : OpenClaim := { program := "ytlhdalcipflblaadoor", sum := "0c8d2e469bccde3d12e51da40d1e137e19219dbfc69ca5166c56905cddb7b95f", func := "pairworks/pairworkslaw10.HeapFirst", spec := "heapFirst", inPlace := ["internal/bytealg.IndexByteString", "internal/bytealg.IndexString"], unfollowed := true, recurses := true, named := ["internal/strconv.uint64pow10", "math/bits.deBruijn32tab", "math/bits.deBruijn64tab", "internal/bytealg.MaxLen"], plainKeys := false, apart := false, laid := [("math/bits.deBruijn32tab", laid_math_bits_deBruijn32tab), ("math/bits.deBruijn64tab", laid_math_bits_deBruijn64tab), ("internal/strconv.uint64pow10", laid_internal_strconv_uint64pow10)] }
def HeapFirstSaid : Prop := heapFirstRow.holds Tryd.pinned (OpenSpec.ofChange heapFirstSpec)

/-- ITS FALSE NEIGHBOUR: 'it returns false'. Refute it at one input. -/
def heapFirstWrong : ChangeSpec := { name := "heapFirst", fn := fun _ => fun
  | [d1, d2] => { results := [.lit (.bool false)], args := [d1, d2] }
  | _ => none }
def HeapFirstWrongFalsely : Prop := heapFirstRow.holds Tryd.pinned (OpenSpec.ofChange heapFirstWrong)

/-- 'pairworkslaw10.HeapWhy': WHATEVER THE INPUT: true; the input reads as it did. -/
def heapWhySpec : ChangeSpec := { name := "heapWhy", fn := fun _ => fun
  | [d1, d2] => { results := [.lit (.bool true)], args := [d1, d2] }
  | _ => none }
def heapWhyRow : OpenClaim := { program := "ytlhdalcipflblaadoor", sum := "0c8d2e469bccde3d12e51da40d1e137e19219dbfc69ca5166c56905cddb7b95f", func := "pairworks/pairworkslaw10.HeapWhy", spec := "heapWhy", inPlace := ["internal/bytealg.IndexByteString", "internal/bytealg.IndexString"], unfollowed := true, recurses := true, named := ["internal/strconv.uint64pow10", "math/bits.deBruijn32tab", "math/bits.deBruijn64tab", "internal/bytealg.MaxLen"], plainKeys := false, apart := false, laid := [("math/bits.deBruijn32tab", laid_math_bits_deBruijn32tab), ("math/bits.deBruijn64tab", laid_math_bits_deBruijn64tab), ("internal/strconv.uint64pow10", laid_internal_strconv_uint64pow10)] }
def HeapWhySaid : Prop := heapWhyRow.holds Tryd.pinned (OpenSpec.ofChange heapWhySpec)

/-- ITS FALSE NEIGHBOUR: 'it returns false'. Refute it at one input. -/
def heapWhyWrong : ChangeSpec := { name := "heapWhy", fn := fun _ => fun
  | [d1, d2] => { results := [.lit (.bool false)], args := [d1, d2] }
  | _ => none }
def HeapWhyWrongFalsely : Prop := heapWhyRow.holds Tryd.pinned (OpenSpec.ofChange heapWhyWrong)

/-- 'pairworkslaw10.HeapMore': WHATEVER THE INPUT: true; the input reads as it did. -/
def heapMoreSpec : ChangeSpec := { name := "heapMore", fn := fun _ => fun
  | [d1, d2] => { results := [.lit (.bool true)], args := [d1, d2] }
  | _ => none }
def heapMoreRow : OpenClaim := { program := "ytlhdalcipflblaadoor", sum := "0c8d2e469bccde3d12e51da40d1e137e19219dbfc69ca5166c56905cddb7b95f", func := "pairworks/pairworkslaw10.HeapMore", spec := "heapMore", inPlace := ["internal/bytealg.IndexByteString", "internal/bytealg.IndexString"], unfollowed := true, recurses := true, named := ["internal/strconv.uint64pow10", "math/bits.deBruijn32tab", "math/bits.deBruijn64tab", "internal/bytealg.MaxLen"], plainKeys := false, apart := false, laid := [("math/bits.deBruijn32tab", laid_math_bits_deBruijn32tab), ("math/bits.deBruijn64tab", laid_math_bits_deBruijn64tab), ("internal/strconv.uint64pow10", laid_internal_strconv_uint64pow10)] }
def HeapMoreSaid : Prop := heapMoreRow.holds Tryd.pinned (OpenSpec.ofChange heapMoreSpec)

/-- ITS FALSE NEIGHBOUR: 'it returns false'. Refute it at one input. -/
def heapMoreWrong : ChangeSpec := { name := "heapMore", fn := fun _ => fun
  | [d1, d2] => { results := [.lit (.bool false)], args := [d1, d2] }
  | _ => none }
def HeapMoreWrongFalsely : Prop := heapMoreRow.holds Tryd.pinned (OpenSpec.ofChange heapMoreWrong)

/-- 'pairworkslaw10.HeapTurned': WHATEVER THE INPUT: true; the input reads as it did. -/
def heapTurnedSpec : ChangeSpec := { name := "heapTurned", fn := fun _ => fun
  | [d1, d2, d3] => { results := [.lit (.bool true)], args := [d1, d2, d3] }
  | _ => none }
def heapTurnedRow : OpenClaim := { program := "ytlhdalcipflblaadoor", sum := "0c8d2e469bccde3d12e51da40d1e137e19219dbfc69ca5166c56905cddb7b95f", func := "pairworks/pairworkslaw10.HeapTurned", spec := "heapTurned", inPlace := ["internal/bytealg.IndexByteString", "internal/bytealg.IndexString"], unfollowed := true, recurses := true, named := ["internal/strconv.uint64pow10", "math/bits.deBruijn32tab", "math/bits.deBruijn64tab", "internal/bytealg.MaxLen"], plainKeys := false, apart := false, laid := [("math/bits.deBruijn32tab", laid_math_bits_deBruijn32tab), ("math/bits.deBruijn64tab", laid_math_bits_deBruijn64tab), ("internal/strconv.uint64pow10", laid_internal_strconv_uint64pow10)] }
def HeapTurnedSaid : Prop := heapTurnedRow.holds Tryd.pinned (OpenSpec.ofChange heapTurnedSpec)

/-- ITS FALSE NEIGHBOUR: 'it returns false'. Refute it at one input. -/
def heapTurnedWrong : ChangeSpec := { name := "heapTurned", fn := fun _ => fun
  | [d1, d2, d3] => { results := [.lit (.bool false)], args := [d1, d2, d3] }
  | _ => none }
def HeapTurnedWrongFalsely : Prop := heapTurnedRow.holds Tryd.pinned (OpenSpec.ofChange heapTurnedWrong)

/- THE SECOND FORM. 'bulk': how many values and letters a reading holds, each counted each time it is reached (what is shared counts as often as it is met; a slice's spare places count too). A statement '..UptoSaid' is the law's where the arguments, and the package variables that the reading takes, are together of bulk at most 1048576: NARROWER than '..Said'. Prove '..Said' where nothing that the law and all that it calls make is longer than what came in: it says more and counts as full. Else prove '..UptoSaid'. A law counts once. -/
mutual
def uptoBulk {H : Type} : DataW H → Nat
  | .lit (.string bytes) => bytes.length + 1
  | .lit _ => 1
  | .nil => 1
  | .ptr d => uptoBulk d + 1
  | .slice elems spare => uptoBulkAll elems + uptoBulkAll spare + 1
  | .agg parts => uptoBulkAll parts + 1
  | .iface _ d => uptoBulk d + 1
  | .map entries => uptoBulkEntries entries + 1
  | .held _ => 1
def uptoBulkAll {H : Type} : List (DataW H) → Nat
  | [] => 0
  | d :: r => uptoBulk d + uptoBulkAll r
def uptoBulkEntries {H : Type} : List (Lit × DataW H) → Nat
  | [] => 0
  | x :: r => uptoBulkEntry x + uptoBulkEntries r
def uptoBulkEntry {H : Type} : Lit × DataW H → Nat
  | (.string bytes, d) => bytes.length + uptoBulk d + 1
  | (_, d) => uptoBulk d + 1
 end
def uptoSmall : (H : Type) → List (DataW H) → Bool := fun _ ds => decide (uptoBulkAll ds ≤ 1048576)
def OpenSpec.upto (s : _root_.Go.ChangeSpec) : _root_.Go.OpenSpec := { _root_.Go.OpenSpec.ofChange s with cond := some uptoSmall }

/-- 'pairworkslaw10.HeapFits', WHERE WHAT IT READS IS OF BULK AT MOST 1048576: true; the input reads as it did. -/
def heapFitsUptoRow : OpenClaim := { program := "ytlhdalcipflblaadoor", sum := "0c8d2e469bccde3d12e51da40d1e137e19219dbfc69ca5166c56905cddb7b95f", func := "pairworks/pairworkslaw10.HeapFits", spec := "heapFits", inPlace := ["internal/bytealg.IndexByteString", "internal/bytealg.IndexString"], unfollowed := true, recurses := true, named := ["internal/strconv.uint64pow10", "math/bits.deBruijn32tab", "math/bits.deBruijn64tab", "internal/bytealg.MaxLen"], plainKeys := false, apart := false, laid := [("math/bits.deBruijn32tab", laid_math_bits_deBruijn32tab), ("math/bits.deBruijn64tab", laid_math_bits_deBruijn64tab), ("internal/strconv.uint64pow10", laid_internal_strconv_uint64pow10)], narrowed := true }
def HeapFitsUptoSaid : Prop := heapFitsUptoRow.holds Tryd.pinned (OpenSpec.upto heapFitsSpec)

/-- 'pairworkslaw10.HeapWays', WHERE WHAT IT READS IS OF BULK AT MOST 1048576: true; the input reads as it did. -/
def heapWaysUptoRow : OpenClaim := { program := "ytlhdalcipflblaadoor", sum := "0c8d2e469bccde3d12e51da40d1e137e19219dbfc69ca5166c56905cddb7b95f", func := "pairworks/pairworkslaw10.HeapWays", spec := "heapWays", inPlace := ["internal/bytealg.IndexByteString", "internal/bytealg.IndexString"], unfollowed := true, recurses := true, named := ["internal/strconv.uint64pow10", "math/bits.deBruijn32tab", "math/bits.deBruijn64tab", "internal/bytealg.MaxLen"], plainKeys := false, apart := false, laid := [("math/bits.deBruijn32tab", laid_math_bits_deBruijn32tab), ("math/bits.deBruijn64tab", laid_math_bits_deBruijn64tab), ("internal/strconv.uint64pow10", laid_internal_strconv_uint64pow10)], narrowed := true }
def HeapWaysUptoSaid : Prop := heapWaysUptoRow.holds Tryd.pinned (OpenSpec.upto heapWaysSpec)

/-- 'pairworkslaw10.HeapTrue', WHERE WHAT IT READS IS OF BULK AT MOST 1048576: true; the input reads as it did. -/
def heapTrueUptoRow : OpenClaim := { program := "ytlhdalcipflblaadoor", sum := "0c8d2e469bccde3d12e51da40d1e137e19219dbfc69ca5166c56905cddb7b95f", func := "pairworks/pairworkslaw10.HeapTrue", spec := "heapTrue", inPlace := ["internal/bytealg.IndexByteString", "internal/bytealg.IndexString"], unfollowed := true, recurses := true, named := ["internal/strconv.uint64pow10", "math/bits.deBruijn32tab", "math/bits.deBruijn64tab", "internal/bytealg.MaxLen"], plainKeys := false, apart := false, laid := [("math/bits.deBruijn32tab", laid_math_bits_deBruijn32tab), ("math/bits.deBruijn64tab", laid_math_bits_deBruijn64tab), ("internal/strconv.uint64pow10", laid_internal_strconv_uint64pow10)], narrowed := true }
def HeapTrueUptoSaid : Prop := heapTrueUptoRow.holds Tryd.pinned (OpenSpec.upto heapTrueSpec)

/-- 'pairworkslaw10.HeapPieces', WHERE WHAT IT READS IS OF BULK AT MOST 1048576: true; the input reads as it did. -/
def heapPiecesUptoRow : OpenClaim := { program := "ytlhdalcipflblaadoor", sum := "0c8d2e469bccde3d12e51da40d1e137e19219dbfc69ca5166c56905cddb7b95f", func := "pairworks/pairworkslaw10.HeapPieces", spec := "heapPieces", inPlace := ["internal/bytealg.IndexByteString", "internal/bytealg.IndexString"], unfollowed := true, recurses := true, named := ["internal/strconv.uint64pow10", "math/bits.deBruijn32tab", "math/bits.deBruijn64tab", "internal/bytealg.MaxLen"], plainKeys := false, apart := false, laid := [("math/bits.deBruijn32tab", laid_math_bits_deBruijn32tab), ("math/bits.deBruijn64tab", laid_math_bits_deBruijn64tab), ("internal/strconv.uint64pow10", laid_internal_strconv_uint64pow10)], narrowed := true }
def HeapPiecesUptoSaid : Prop := heapPiecesUptoRow.holds Tryd.pinned (OpenSpec.upto heapPiecesSpec)

/-- 'pairworkslaw10.HeapShares', WHERE WHAT IT READS IS OF BULK AT MOST 1048576: true; the input reads as it did. -/
def heapSharesUptoRow : OpenClaim := { program := "ytlhdalcipflblaadoor", sum := "0c8d2e469bccde3d12e51da40d1e137e19219dbfc69ca5166c56905cddb7b95f", func := "pairworks/pairworkslaw10.HeapShares", spec := "heapShares", inPlace := ["internal/bytealg.IndexByteString", "internal/bytealg.IndexString"], unfollowed := true, recurses := true, named := ["internal/strconv.uint64pow10", "math/bits.deBruijn32tab", "math/bits.deBruijn64tab", "internal/bytealg.MaxLen"], plainKeys := false, apart := false, laid := [("math/bits.deBruijn32tab", laid_math_bits_deBruijn32tab), ("math/bits.deBruijn64tab", laid_math_bits_deBruijn64tab), ("internal/strconv.uint64pow10", laid_internal_strconv_uint64pow10)], narrowed := true }
def HeapSharesUptoSaid : Prop := heapSharesUptoRow.holds Tryd.pinned (OpenSpec.upto heapSharesSpec)

/-- 'pairworkslaw10.HeapFirst', WHERE WHAT IT READS IS OF BULK AT MOST 1048576: true; the input reads as it did. -/
def heapFirstUptoRow : OpenClaim := { program := "ytlhdalcipflblaadoor", sum := "0c8d2e469bccde3d12e51da40d1e137e19219dbfc69ca5166c56905cddb7b95f", func := "pairworks/pairworkslaw10.HeapFirst", spec := "heapFirst", inPlace := ["internal/bytealg.IndexByteString", "internal/bytealg.IndexString"], unfollowed := true, recurses := true, named := ["internal/strconv.uint64pow10", "math/bits.deBruijn32tab", "math/bits.deBruijn64tab", "internal/bytealg.MaxLen"], plainKeys := false, apart := false, laid := [("math/bits.deBruijn32tab", laid_math_bits_deBruijn32tab), ("math/bits.deBruijn64tab", laid_math_bits_deBruijn64tab), ("internal/strconv.uint64pow10", laid_internal_strconv_uint64pow10)], narrowed := true }
def HeapFirstUptoSaid : Prop := heapFirstUptoRow.holds Tryd.pinned (OpenSpec.upto heapFirstSpec)

/-- 'pairworkslaw10.HeapWhy', WHERE WHAT IT READS IS OF BULK AT MOST 1048576: true; the input reads as it did. -/
def heapWhyUptoRow : OpenClaim := { program := "ytlhdalcipflblaadoor", sum := "0c8d2e469bccde3d12e51da40d1e137e19219dbfc69ca5166c56905cddb7b95f", func := "pairworks/pairworkslaw10.HeapWhy", spec := "heapWhy", inPlace := ["internal/bytealg.IndexByteString", "internal/bytealg.IndexString"], unfollowed := true, recurses := true, named := ["internal/strconv.uint64pow10", "math/bits.deBruijn32tab", "math/bits.deBruijn64tab", "internal/bytealg.MaxLen"], plainKeys := false, apart := false, laid := [("math/bits.deBruijn32tab", laid_math_bits_deBruijn32tab), ("math/bits.deBruijn64tab", laid_math_bits_deBruijn64tab), ("internal/strconv.uint64pow10", laid_internal_strconv_uint64pow10)], narrowed := true }
def HeapWhyUptoSaid : Prop := heapWhyUptoRow.holds Tryd.pinned (OpenSpec.upto heapWhySpec)

/-- 'pairworkslaw10.HeapMore', WHERE WHAT IT READS IS OF BULK AT MOST 1048576: true; the input reads as it did. -/
def heapMoreUptoRow : OpenClaim := { program := "ytlhdalcipflblaadoor", sum := "0c8d2e469bccde3d12e51da40d1e137e19219dbfc69ca5166c56905cddb7b95f", func := "pairworks/pairworkslaw10.HeapMore", spec := "heapMore", inPlace := ["internal/bytealg.IndexByteString", "internal/bytealg.IndexString"], unfollowed := true, recurses := true, named := ["internal/strconv.uint64pow10", "math/bits.deBruijn32tab", "math/bits.deBruijn64tab", "internal/bytealg.MaxLen"], plainKeys := false, apart := false, laid := [("math/bits.deBruijn32tab", laid_math_bits_deBruijn32tab), ("math/bits.deBruijn64tab", laid_math_bits_deBruijn64tab), ("internal/strconv.uint64pow10", laid_internal_strconv_uint64pow10)], narrowed := true }
def HeapMoreUptoSaid : Prop := heapMoreUptoRow.holds Tryd.pinned (OpenSpec.upto heapMoreSpec)

/-- 'pairworkslaw10.HeapTurned', WHERE WHAT IT READS IS OF BULK AT MOST 1048576: true; the input reads as it did. -/
def heapTurnedUptoRow : OpenClaim := { program := "ytlhdalcipflblaadoor", sum := "0c8d2e469bccde3d12e51da40d1e137e19219dbfc69ca5166c56905cddb7b95f", func := "pairworks/pairworkslaw10.HeapTurned", spec := "heapTurned", inPlace := ["internal/bytealg.IndexByteString", "internal/bytealg.IndexString"], unfollowed := true, recurses := true, named := ["internal/strconv.uint64pow10", "math/bits.deBruijn32tab", "math/bits.deBruijn64tab", "internal/bytealg.MaxLen"], plainKeys := false, apart := false, laid := [("math/bits.deBruijn32tab", laid_math_bits_deBruijn32tab), ("math/bits.deBruijn64tab", laid_math_bits_deBruijn64tab), ("internal/strconv.uint64pow10", laid_internal_strconv_uint64pow10)], narrowed := true }
def HeapTurnedUptoSaid : Prop := heapTurnedUptoRow.holds Tryd.pinned (OpenSpec.upto heapTurnedSpec)

end Rows
end Go.Proofs.YtlhdalcipflblaaDoor
