/-
  No cell of these rows narrows 'for every input' (looked for: loops, veiled, ifaces, maps, wideKeys, modest, calm, conditions, laid).
  DERIVED. THE GIVEN ROWS OF THIS SEAT. 6 by the template 'for every input the law returns true; each argument reads behind the call as it read before'; 0 by the template 'total and deterministic' (their statements: YtjijeeadmhpfcaaTotals.lean).
  GIVEN WITH THE SEED: the statements are not yours to turn. If you find one false, say at which input.
  Laid BY PROGRAM, IN A SANDBOX (cutbox-rows.mjs): the forced cells as the released guide's own fill.sh prints them over the translation 0e1b9791e97e5c5d… (all of the seat's roots in one cut). By AI agents, Wed Nov 11 2026. No macro, syntax, notation, axiom, sorry.
-/
import Derived.Test.YtjijeeadmhpfcaaChecked
import GoSem.Claim
import GoSem.ClaimJoined
import GoSem.ClaimMapViews
import Derived.JoinedTies
import Derived.KernelRfl
namespace Go.Proofs.Ytjijeeadmhpfcaa
/- THE CELL 'sum', in the pinned program and in every row, IS THE sha256 OF THE DUMP (.gsa) THAT YtjijeeadmhpfcaaProg.lean LOADS. Nothing in Lean hashes anything: it is a label: what it is worth is what the hold of that sum in a sandbox is worth. -/
noncomputable def Try.pinned : Pinned := { name := "ytjijeeadmhpfcaa", sum := "0e1b9791e97e5c5da2a118e91b01a0079ca39e883f555a72a0945a6fbfd2bfd5", checked := Try.checked }
namespace Rows
def none {H : Type} : Left H := { results := [], args := [] }

/-- 'pairworkslaw05.YearsThings': WHATEVER THE INPUT: true; the input reads as it did. -/
def yearsThingsSpec : ChangeSpec := { name := "yearsThings", fn := fun _ => fun
  | [d1, d2] => { results := [.lit (.bool true)], args := [d1, d2] }
  | _ => none }
def yearsThingsRow : OpenClaim := { program := "ytjijeeadmhpfcaa", sum := "0e1b9791e97e5c5da2a118e91b01a0079ca39e883f555a72a0945a6fbfd2bfd5", func := "pairworks/pairworkslaw05.YearsThings", spec := "yearsThings", unfollowed := true, recurses := true, apart := false }
def YearsThingsSaid : Prop := yearsThingsRow.holds Try.pinned (OpenSpec.ofChange yearsThingsSpec)

/-- ITS FALSE NEIGHBOUR: 'it returns false'. Refute it at one input. -/
def yearsThingsWrong : ChangeSpec := { name := "yearsThings", fn := fun _ => fun
  | [d1, d2] => { results := [.lit (.bool false)], args := [d1, d2] }
  | _ => none }
def YearsThingsWrongFalsely : Prop := yearsThingsRow.holds Try.pinned (OpenSpec.ofChange yearsThingsWrong)

/-- 'pairworkslaw05.YearsNames': WHATEVER THE INPUT: true; the input reads as it did. -/
def yearsNamesSpec : ChangeSpec := { name := "yearsNames", fn := fun _ => fun
  | [] => { results := [.lit (.bool true)], args := [] }
  | _ => none }
def yearsNamesRow : OpenClaim := { program := "ytjijeeadmhpfcaa", sum := "0e1b9791e97e5c5da2a118e91b01a0079ca39e883f555a72a0945a6fbfd2bfd5", func := "pairworks/pairworkslaw05.YearsNames", spec := "yearsNames", unfollowed := true, recurses := true, apart := false }
def YearsNamesSaid : Prop := yearsNamesRow.holds Try.pinned (OpenSpec.ofChange yearsNamesSpec)

/-- ITS FALSE NEIGHBOUR: 'it returns false'. Refute it at one input. -/
def yearsNamesWrong : ChangeSpec := { name := "yearsNames", fn := fun _ => fun
  | [] => { results := [.lit (.bool false)], args := [] }
  | _ => none }
def YearsNamesWrongFalsely : Prop := yearsNamesRow.holds Try.pinned (OpenSpec.ofChange yearsNamesWrong)

/-- 'pairworkslaw05.YearsTrue': WHATEVER THE INPUT: true; the input reads as it did. -/
def yearsTrueSpec : ChangeSpec := { name := "yearsTrue", fn := fun _ => fun
  | [d1, d2] => { results := [.lit (.bool true)], args := [d1, d2] }
  | _ => none }
def yearsTrueRow : OpenClaim := { program := "ytjijeeadmhpfcaa", sum := "0e1b9791e97e5c5da2a118e91b01a0079ca39e883f555a72a0945a6fbfd2bfd5", func := "pairworks/pairworkslaw05.YearsTrue", spec := "yearsTrue", unfollowed := true, recurses := true, apart := false }
def YearsTrueSaid : Prop := yearsTrueRow.holds Try.pinned (OpenSpec.ofChange yearsTrueSpec)

/-- ITS FALSE NEIGHBOUR: 'it returns false'. Refute it at one input. -/
def yearsTrueWrong : ChangeSpec := { name := "yearsTrue", fn := fun _ => fun
  | [d1, d2] => { results := [.lit (.bool false)], args := [d1, d2] }
  | _ => none }
def YearsTrueWrongFalsely : Prop := yearsTrueRow.holds Try.pinned (OpenSpec.ofChange yearsTrueWrong)

/-- 'pairworkslaw05.YearsAlike': WHATEVER THE INPUT: true; the input reads as it did. -/
def yearsAlikeSpec : ChangeSpec := { name := "yearsAlike", fn := fun _ => fun
  | [d1, d2, d3, d4] => { results := [.lit (.bool true)], args := [d1, d2, d3, d4] }
  | _ => none }
def yearsAlikeRow : OpenClaim := { program := "ytjijeeadmhpfcaa", sum := "0e1b9791e97e5c5da2a118e91b01a0079ca39e883f555a72a0945a6fbfd2bfd5", func := "pairworks/pairworkslaw05.YearsAlike", spec := "yearsAlike", unfollowed := true, recurses := true, apart := false }
def YearsAlikeSaid : Prop := yearsAlikeRow.holds Try.pinned (OpenSpec.ofChange yearsAlikeSpec)

/-- ITS FALSE NEIGHBOUR: 'it returns false'. Refute it at one input. -/
def yearsAlikeWrong : ChangeSpec := { name := "yearsAlike", fn := fun _ => fun
  | [d1, d2, d3, d4] => { results := [.lit (.bool false)], args := [d1, d2, d3, d4] }
  | _ => none }
def YearsAlikeWrongFalsely : Prop := yearsAlikeRow.holds Try.pinned (OpenSpec.ofChange yearsAlikeWrong)

/-- 'pairworkslaw05.YearsMore': WHATEVER THE INPUT: true; the input reads as it did. -/
def yearsMoreSpec : ChangeSpec := { name := "yearsMore", fn := fun _ => fun
  | [d1, d2, d3] => { results := [.lit (.bool true)], args := [d1, d2, d3] }
  | _ => none }
def yearsMoreRow : OpenClaim := { program := "ytjijeeadmhpfcaa", sum := "0e1b9791e97e5c5da2a118e91b01a0079ca39e883f555a72a0945a6fbfd2bfd5", func := "pairworks/pairworkslaw05.YearsMore", spec := "yearsMore", unfollowed := true, recurses := true, apart := false }
def YearsMoreSaid : Prop := yearsMoreRow.holds Try.pinned (OpenSpec.ofChange yearsMoreSpec)

/-- ITS FALSE NEIGHBOUR: 'it returns false'. Refute it at one input. -/
def yearsMoreWrong : ChangeSpec := { name := "yearsMore", fn := fun _ => fun
  | [d1, d2, d3] => { results := [.lit (.bool false)], args := [d1, d2, d3] }
  | _ => none }
def YearsMoreWrongFalsely : Prop := yearsMoreRow.holds Try.pinned (OpenSpec.ofChange yearsMoreWrong)

/-- 'pairworkslaw05.YearsTurned': WHATEVER THE INPUT: true; the input reads as it did. -/
def yearsTurnedSpec : ChangeSpec := { name := "yearsTurned", fn := fun _ => fun
  | [d1, d2] => { results := [.lit (.bool true)], args := [d1, d2] }
  | _ => none }
def yearsTurnedRow : OpenClaim := { program := "ytjijeeadmhpfcaa", sum := "0e1b9791e97e5c5da2a118e91b01a0079ca39e883f555a72a0945a6fbfd2bfd5", func := "pairworks/pairworkslaw05.YearsTurned", spec := "yearsTurned", unfollowed := true, recurses := true, apart := false }
def YearsTurnedSaid : Prop := yearsTurnedRow.holds Try.pinned (OpenSpec.ofChange yearsTurnedSpec)

/-- ITS FALSE NEIGHBOUR: 'it returns false'. Refute it at one input. -/
def yearsTurnedWrong : ChangeSpec := { name := "yearsTurned", fn := fun _ => fun
  | [d1, d2] => { results := [.lit (.bool false)], args := [d1, d2] }
  | _ => none }
def YearsTurnedWrongFalsely : Prop := yearsTurnedRow.holds Try.pinned (OpenSpec.ofChange yearsTurnedWrong)

/- THE SECOND FORM. 'bulk': how many values and letters a reading holds, each counted each time it is reached (what is shared counts as often as it is met; a slice's spare places count too). A statement '..UptoSaid' is the law's where the arguments, and the package variables that the reading takes, are together of bulk at most 1048576: NARROWER than '..Said'. Prove '..Said' where nothing that the law and all that it calls make is longer than what came in: it says more and counts as full. Else prove '..UptoSaid'. A law counts once. -/
mutual
def uptoBulk {H : Type} : DataW H → Nat
  | .lit (.string bytes) => bytes.length + 1
  | .lit _ => 1
  | .nil => 1
  | .ptr d => uptoBulk d + 1
  | .slice elems spare => uptoBulkAll elems + uptoBulkAll spare + 1
  | .agg parts => uptoBulkAll parts + 1
  | .iface _ d => uptoBulk d + 1
  | .map entries => uptoBulkEntries entries + 1
  | .held _ => 1
def uptoBulkAll {H : Type} : List (DataW H) → Nat
  | [] => 0
  | d :: r => uptoBulk d + uptoBulkAll r
def uptoBulkEntries {H : Type} : List (Lit × DataW H) → Nat
  | [] => 0
  | x :: r => uptoBulkEntry x + uptoBulkEntries r
def uptoBulkEntry {H : Type} : Lit × DataW H → Nat
  | (.string bytes, d) => bytes.length + uptoBulk d + 1
  | (_, d) => uptoBulk d + 1
 end
def uptoSmall : (H : Type) → List (DataW H) → Bool := fun _ ds => decide (uptoBulkAll ds ≤ 1048576)
def OpenSpec.upto (s : _root_.Go.ChangeSpec) : _root_.Go.OpenSpec := { _root_.Go.OpenSpec.ofChange s with cond := some uptoSmall }

/-- 'pairworkslaw05.YearsThings', WHERE WHAT IT READS IS OF BULK AT MOST 1048576: true; the input reads as it did. -/
def yearsThingsUptoRow : OpenClaim := { program := "ytjijeeadmhpfcaa", sum := "0e1b9791e97e5c5da2a118e91b01a0079ca39e883f555a72a0945a6fbfd2bfd5", func := "pairworks/pairworkslaw05.YearsThings", spec := "yearsThings", unfollowed := true, recurses := true, apart := false, narrowed := true }
def YearsThingsUptoSaid : Prop := yearsThingsUptoRow.holds Try.pinned (OpenSpec.upto yearsThingsSpec)

/-- 'pairworkslaw05.YearsNames', WHERE WHAT IT READS IS OF BULK AT MOST 1048576: true; the input reads as it did. -/
def yearsNamesUptoRow : OpenClaim := { program := "ytjijeeadmhpfcaa", sum := "0e1b9791e97e5c5da2a118e91b01a0079ca39e883f555a72a0945a6fbfd2bfd5", func := "pairworks/pairworkslaw05.YearsNames", spec := "yearsNames", unfollowed := true, recurses := true, apart := false, narrowed := true }
def YearsNamesUptoSaid : Prop := yearsNamesUptoRow.holds Try.pinned (OpenSpec.upto yearsNamesSpec)

/-- 'pairworkslaw05.YearsTrue', WHERE WHAT IT READS IS OF BULK AT MOST 1048576: true; the input reads as it did. -/
def yearsTrueUptoRow : OpenClaim := { program := "ytjijeeadmhpfcaa", sum := "0e1b9791e97e5c5da2a118e91b01a0079ca39e883f555a72a0945a6fbfd2bfd5", func := "pairworks/pairworkslaw05.YearsTrue", spec := "yearsTrue", unfollowed := true, recurses := true, apart := false, narrowed := true }
def YearsTrueUptoSaid : Prop := yearsTrueUptoRow.holds Try.pinned (OpenSpec.upto yearsTrueSpec)

/-- 'pairworkslaw05.YearsAlike', WHERE WHAT IT READS IS OF BULK AT MOST 1048576: true; the input reads as it did. -/
def yearsAlikeUptoRow : OpenClaim := { program := "ytjijeeadmhpfcaa", sum := "0e1b9791e97e5c5da2a118e91b01a0079ca39e883f555a72a0945a6fbfd2bfd5", func := "pairworks/pairworkslaw05.YearsAlike", spec := "yearsAlike", unfollowed := true, recurses := true, apart := false, narrowed := true }
def YearsAlikeUptoSaid : Prop := yearsAlikeUptoRow.holds Try.pinned (OpenSpec.upto yearsAlikeSpec)

/-- 'pairworkslaw05.YearsMore', WHERE WHAT IT READS IS OF BULK AT MOST 1048576: true; the input reads as it did. -/
def yearsMoreUptoRow : OpenClaim := { program := "ytjijeeadmhpfcaa", sum := "0e1b9791e97e5c5da2a118e91b01a0079ca39e883f555a72a0945a6fbfd2bfd5", func := "pairworks/pairworkslaw05.YearsMore", spec := "yearsMore", unfollowed := true, recurses := true, apart := false, narrowed := true }
def YearsMoreUptoSaid : Prop := yearsMoreUptoRow.holds Try.pinned (OpenSpec.upto yearsMoreSpec)

/-- 'pairworkslaw05.YearsTurned', WHERE WHAT IT READS IS OF BULK AT MOST 1048576: true; the input reads as it did. -/
def yearsTurnedUptoRow : OpenClaim := { program := "ytjijeeadmhpfcaa", sum := "0e1b9791e97e5c5da2a118e91b01a0079ca39e883f555a72a0945a6fbfd2bfd5", func := "pairworks/pairworkslaw05.YearsTurned", spec := "yearsTurned", unfollowed := true, recurses := true, apart := false, narrowed := true }
def YearsTurnedUptoSaid : Prop := yearsTurnedUptoRow.holds Try.pinned (OpenSpec.upto yearsTurnedSpec)

end Rows
end Go.Proofs.Ytjijeeadmhpfcaa
