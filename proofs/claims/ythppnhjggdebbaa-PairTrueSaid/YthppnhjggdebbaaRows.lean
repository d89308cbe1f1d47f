/-
  No cell of these rows narrows 'for every input' (looked for: loops, veiled, ifaces, maps, wideKeys, modest, calm, conditions, laid).
  DERIVED. THE GIVEN ROWS OF THIS SEAT. 9 by the template 'for every input the law returns true; each argument reads behind the call as it read before'; 0 by the template 'total and deterministic' (their statements: YthppnhjggdebbaaTotals.lean).
  GIVEN WITH THE SEED: the statements are not yours to turn. If you find one false, say at which input.
  Laid BY PROGRAM, IN A SANDBOX (cutbox-rows.mjs): the forced cells as the released guide's own fill.sh prints them over the translation 8e7318152dd1f8ea… (all of the seat's roots in one cut). By AI agents, Wed Nov 11 2026. No macro, syntax, notation, axiom, sorry.
-/
import Derived.Test.YthppnhjggdebbaaChecked
import GoSem.Claim
import GoSem.ClaimJoined
import GoSem.ClaimMapViews
import Derived.JoinedTies
import Derived.KernelRfl
namespace Go.Proofs.Ythppnhjggdebbaa
/- THE CELL 'sum', in the pinned program and in every row, IS THE sha256 OF THE DUMP (.gsa) THAT YthppnhjggdebbaaProg.lean LOADS. Nothing in Lean hashes anything: it is a label: what it is worth is what the hold of that sum in a sandbox is worth. -/
noncomputable def Try.pinned : Pinned := { name := "ythppnhjggdebbaa", sum := "8e7318152dd1f8eac88ad4c4f7076a736b391bb1006e217b17d973d57bf3de55", checked := Try.checked }
namespace Rows
def none {H : Type} : Left H := { results := [], args := [] }

/-- 'pairworkslaw01.PairReads': WHATEVER THE INPUT: true; the input reads as it did. -/
def pairReadsSpec : ChangeSpec := { name := "pairReads", fn := fun _ => fun
  | [d1, d2, d3, d4] => { results := [.lit (.bool true)], args := [d1, d2, d3, d4] }
  | _ => none }
def pairReadsRow : OpenClaim := { program := "ythppnhjggdebbaa", sum := "8e7318152dd1f8eac88ad4c4f7076a736b391bb1006e217b17d973d57bf3de55", func := "pairworks/pairworkslaw01.PairReads", spec := "pairReads", unfollowed := true, recurses := true, apart := false }
def PairReadsSaid : Prop := pairReadsRow.holds Try.pinned (OpenSpec.ofChange pairReadsSpec)

/-- ITS FALSE NEIGHBOUR: 'it returns false'. Refute it at one input. -/
def pairReadsWrong : ChangeSpec := { name := "pairReads", fn := fun _ => fun
  | [d1, d2, d3, d4] => { results := [.lit (.bool false)], args := [d1, d2, d3, d4] }
  | _ => none }
def PairReadsWrongFalsely : Prop := pairReadsRow.holds Try.pinned (OpenSpec.ofChange pairReadsWrong)

/-- 'pairworkslaw01.PairFinds': WHATEVER THE INPUT: true; the input reads as it did. -/
def pairFindsSpec : ChangeSpec := { name := "pairFinds", fn := fun _ => fun
  | [d1, d2] => { results := [.lit (.bool true)], args := [d1, d2] }
  | _ => none }
def pairFindsRow : OpenClaim := { program := "ythppnhjggdebbaa", sum := "8e7318152dd1f8eac88ad4c4f7076a736b391bb1006e217b17d973d57bf3de55", func := "pairworks/pairworkslaw01.PairFinds", spec := "pairFinds", unfollowed := true, recurses := true, apart := false }
def PairFindsSaid : Prop := pairFindsRow.holds Try.pinned (OpenSpec.ofChange pairFindsSpec)

/-- ITS FALSE NEIGHBOUR: 'it returns false'. Refute it at one input. -/
def pairFindsWrong : ChangeSpec := { name := "pairFinds", fn := fun _ => fun
  | [d1, d2] => { results := [.lit (.bool false)], args := [d1, d2] }
  | _ => none }
def PairFindsWrongFalsely : Prop := pairFindsRow.holds Try.pinned (OpenSpec.ofChange pairFindsWrong)

/-- 'pairworkslaw01.PairTrue': WHATEVER THE INPUT: true; the input reads as it did. -/
def pairTrueSpec : ChangeSpec := { name := "pairTrue", fn := fun _ => fun
  | [d1, d2] => { results := [.lit (.bool true)], args := [d1, d2] }
  | _ => none }
def pairTrueRow : OpenClaim := { program := "ythppnhjggdebbaa", sum := "8e7318152dd1f8eac88ad4c4f7076a736b391bb1006e217b17d973d57bf3de55", func := "pairworks/pairworkslaw01.PairTrue", spec := "pairTrue", unfollowed := true, recurses := true, apart := false }
def PairTrueSaid : Prop := pairTrueRow.holds Try.pinned (OpenSpec.ofChange pairTrueSpec)

/-- ITS FALSE NEIGHBOUR: 'it returns false'. Refute it at one input. -/
def pairTrueWrong : ChangeSpec := { name := "pairTrue", fn := fun _ => fun
  | [d1, d2] => { results := [.lit (.bool false)], args := [d1, d2] }
  | _ => none }
def PairTrueWrongFalsely : Prop := pairTrueRow.holds Try.pinned (OpenSpec.ofChange pairTrueWrong)

/-- 'pairworkslaw01.PairEnds': WHATEVER THE INPUT: true; the input reads as it did. -/
def pairEndsSpec : ChangeSpec := { name := "pairEnds", fn := fun _ => fun
  | [d1, d2, d3] => { results := [.lit (.bool true)], args := [d1, d2, d3] }
  | _ => none }
def pairEndsRow : OpenClaim := { program := "ythppnhjggdebbaa", sum := "8e7318152dd1f8eac88ad4c4f7076a736b391bb1006e217b17d973d57bf3de55", func := "pairworks/pairworkslaw01.PairEnds", spec := "pairEnds", unfollowed := true, recurses := true, apart := false }
def PairEndsSaid : Prop := pairEndsRow.holds Try.pinned (OpenSpec.ofChange pairEndsSpec)

/-- ITS FALSE NEIGHBOUR: 'it returns false'. Refute it at one input. -/
def pairEndsWrong : ChangeSpec := { name := "pairEnds", fn := fun _ => fun
  | [d1, d2, d3] => { results := [.lit (.bool false)], args := [d1, d2, d3] }
  | _ => none }
def PairEndsWrongFalsely : Prop := pairEndsRow.holds Try.pinned (OpenSpec.ofChange pairEndsWrong)

/-- 'pairworkslaw01.PairWhy': WHATEVER THE INPUT: true; the input reads as it did. -/
def pairWhySpec : ChangeSpec := { name := "pairWhy", fn := fun _ => fun
  | [d1, d2] => { results := [.lit (.bool true)], args := [d1, d2] }
  | _ => none }
def pairWhyRow : OpenClaim := { program := "ythppnhjggdebbaa", sum := "8e7318152dd1f8eac88ad4c4f7076a736b391bb1006e217b17d973d57bf3de55", func := "pairworks/pairworkslaw01.PairWhy", spec := "pairWhy", unfollowed := true, recurses := true, apart := false }
def PairWhySaid : Prop := pairWhyRow.holds Try.pinned (OpenSpec.ofChange pairWhySpec)

/-- ITS FALSE NEIGHBOUR: 'it returns false'. Refute it at one input. -/
def pairWhyWrong : ChangeSpec := { name := "pairWhy", fn := fun _ => fun
  | [d1, d2] => { results := [.lit (.bool false)], args := [d1, d2] }
  | _ => none }
def PairWhyWrongFalsely : Prop := pairWhyRow.holds Try.pinned (OpenSpec.ofChange pairWhyWrong)

/-- 'pairworkslaw01.PairFewest': WHATEVER THE INPUT: true; the input reads as it did. -/
def pairFewestSpec : ChangeSpec := { name := "pairFewest", fn := fun _ => fun
  | [d1, d2] => { results := [.lit (.bool true)], args := [d1, d2] }
  | _ => none }
def pairFewestRow : OpenClaim := { program := "ythppnhjggdebbaa", sum := "8e7318152dd1f8eac88ad4c4f7076a736b391bb1006e217b17d973d57bf3de55", func := "pairworks/pairworkslaw01.PairFewest", spec := "pairFewest", unfollowed := true, recurses := true, apart := false }
def PairFewestSaid : Prop := pairFewestRow.holds Try.pinned (OpenSpec.ofChange pairFewestSpec)

/-- ITS FALSE NEIGHBOUR: 'it returns false'. Refute it at one input. -/
def pairFewestWrong : ChangeSpec := { name := "pairFewest", fn := fun _ => fun
  | [d1, d2] => { results := [.lit (.bool false)], args := [d1, d2] }
  | _ => none }
def PairFewestWrongFalsely : Prop := pairFewestRow.holds Try.pinned (OpenSpec.ofChange pairFewestWrong)

/-- 'pairworkslaw01.PairNearer': WHATEVER THE INPUT: true; the input reads as it did. -/
def pairNearerSpec : ChangeSpec := { name := "pairNearer", fn := fun _ => fun
  | [d1, d2, d3, d4] => { results := [.lit (.bool true)], args := [d1, d2, d3, d4] }
  | _ => none }
def pairNearerRow : OpenClaim := { program := "ythppnhjggdebbaa", sum := "8e7318152dd1f8eac88ad4c4f7076a736b391bb1006e217b17d973d57bf3de55", func := "pairworks/pairworkslaw01.PairNearer", spec := "pairNearer", unfollowed := true, recurses := true, apart := false }
def PairNearerSaid : Prop := pairNearerRow.holds Try.pinned (OpenSpec.ofChange pairNearerSpec)

/-- ITS FALSE NEIGHBOUR: 'it returns false'. Refute it at one input. -/
def pairNearerWrong : ChangeSpec := { name := "pairNearer", fn := fun _ => fun
  | [d1, d2, d3, d4] => { results := [.lit (.bool false)], args := [d1, d2, d3, d4] }
  | _ => none }
def PairNearerWrongFalsely : Prop := pairNearerRow.holds Try.pinned (OpenSpec.ofChange pairNearerWrong)

/-- 'pairworkslaw01.PairMore': WHATEVER THE INPUT: true; the input reads as it did. -/
def pairMoreSpec : ChangeSpec := { name := "pairMore", fn := fun _ => fun
  | [d1, d2, d3, d4] => { results := [.lit (.bool true)], args := [d1, d2, d3, d4] }
  | _ => none }
def pairMoreRow : OpenClaim := { program := "ythppnhjggdebbaa", sum := "8e7318152dd1f8eac88ad4c4f7076a736b391bb1006e217b17d973d57bf3de55", func := "pairworks/pairworkslaw01.PairMore", spec := "pairMore", unfollowed := true, recurses := true, apart := false }
def PairMoreSaid : Prop := pairMoreRow.holds Try.pinned (OpenSpec.ofChange pairMoreSpec)

/-- ITS FALSE NEIGHBOUR: 'it returns false'. Refute it at one input. -/
def pairMoreWrong : ChangeSpec := { name := "pairMore", fn := fun _ => fun
  | [d1, d2, d3, d4] => { results := [.lit (.bool false)], args := [d1, d2, d3, d4] }
  | _ => none }
def PairMoreWrongFalsely : Prop := pairMoreRow.holds Try.pinned (OpenSpec.ofChange pairMoreWrong)

/-- 'pairworkslaw01.PairTurned': WHATEVER THE INPUT: true; the input reads as it did. -/
def pairTurnedSpec : ChangeSpec := { name := "pairTurned", fn := fun _ => fun
  | [d1, d2, d3] => { results := [.lit (.bool true)], args := [d1, d2, d3] }
  | _ => none }
def pairTurnedRow : OpenClaim := { program := "ythppnhjggdebbaa", sum := "8e7318152dd1f8eac88ad4c4f7076a736b391bb1006e217b17d973d57bf3de55", func := "pairworks/pairworkslaw01.PairTurned", spec := "pairTurned", unfollowed := true, recurses := true, apart := false }
def PairTurnedSaid : Prop := pairTurnedRow.holds Try.pinned (OpenSpec.ofChange pairTurnedSpec)

/-- ITS FALSE NEIGHBOUR: 'it returns false'. Refute it at one input. -/
def pairTurnedWrong : ChangeSpec := { name := "pairTurned", fn := fun _ => fun
  | [d1, d2, d3] => { results := [.lit (.bool false)], args := [d1, d2, d3] }
  | _ => none }
def PairTurnedWrongFalsely : Prop := pairTurnedRow.holds Try.pinned (OpenSpec.ofChange pairTurnedWrong)

/- THE SECOND FORM. 'bulk': how many values and letters a reading holds, each counted each time it is reached (what is shared counts as often as it is met; a slice's spare places count too). A statement '..UptoSaid' is the law's where the arguments, and the package variables that the reading takes, are together of bulk at most 1048576: NARROWER than '..Said'. Prove '..Said' where nothing that the law and all that it calls make is longer than what came in: it says more and counts as full. Else prove '..UptoSaid'. A law counts once. -/
mutual
def uptoBulk {H : Type} : DataW H → Nat
  | .lit (.string bytes) => bytes.length + 1
  | .lit _ => 1
  | .nil => 1
  | .ptr d => uptoBulk d + 1
  | .slice elems spare => uptoBulkAll elems + uptoBulkAll spare + 1
  | .agg parts => uptoBulkAll parts + 1
  | .iface _ d => uptoBulk d + 1
  | .map entries => uptoBulkEntries entries + 1
  | .held _ => 1
def uptoBulkAll {H : Type} : List (DataW H) → Nat
  | [] => 0
  | d :: r => uptoBulk d + uptoBulkAll r
def uptoBulkEntries {H : Type} : List (Lit × DataW H) → Nat
  | [] => 0
  | x :: r => uptoBulkEntry x + uptoBulkEntries r
def uptoBulkEntry {H : Type} : Lit × DataW H → Nat
  | (.string bytes, d) => bytes.length + uptoBulk d + 1
  | (_, d) => uptoBulk d + 1
 end
def uptoSmall : (H : Type) → List (DataW H) → Bool := fun _ ds => decide (uptoBulkAll ds ≤ 1048576)
def OpenSpec.upto (s : _root_.Go.ChangeSpec) : _root_.Go.OpenSpec := { _root_.Go.OpenSpec.ofChange s with cond := some uptoSmall }

/-- 'pairworkslaw01.PairReads', WHERE WHAT IT READS IS OF BULK AT MOST 1048576: true; the input reads as it did. -/
def pairReadsUptoRow : OpenClaim := { program := "ythppnhjggdebbaa", sum := "8e7318152dd1f8eac88ad4c4f7076a736b391bb1006e217b17d973d57bf3de55", func := "pairworks/pairworkslaw01.PairReads", spec := "pairReads", unfollowed := true, recurses := true, apart := false, narrowed := true }
def PairReadsUptoSaid : Prop := pairReadsUptoRow.holds Try.pinned (OpenSpec.upto pairReadsSpec)

/-- 'pairworkslaw01.PairFinds', WHERE WHAT IT READS IS OF BULK AT MOST 1048576: true; the input reads as it did. -/
def pairFindsUptoRow : OpenClaim := { program := "ythppnhjggdebbaa", sum := "8e7318152dd1f8eac88ad4c4f7076a736b391bb1006e217b17d973d57bf3de55", func := "pairworks/pairworkslaw01.PairFinds", spec := "pairFinds", unfollowed := true, recurses := true, apart := false, narrowed := true }
def PairFindsUptoSaid : Prop := pairFindsUptoRow.holds Try.pinned (OpenSpec.upto pairFindsSpec)

/-- 'pairworkslaw01.PairTrue', WHERE WHAT IT READS IS OF BULK AT MOST 1048576: true; the input reads as it did. -/
def pairTrueUptoRow : OpenClaim := { program := "ythppnhjggdebbaa", sum := "8e7318152dd1f8eac88ad4c4f7076a736b391bb1006e217b17d973d57bf3de55", func := "pairworks/pairworkslaw01.PairTrue", spec := "pairTrue", unfollowed := true, recurses := true, apart := false, narrowed := true }
def PairTrueUptoSaid : Prop := pairTrueUptoRow.holds Try.pinned (OpenSpec.upto pairTrueSpec)

/-- 'pairworkslaw01.PairEnds', WHERE WHAT IT READS IS OF BULK AT MOST 1048576: true; the input reads as it did. -/
def pairEndsUptoRow : OpenClaim := { program := "ythppnhjggdebbaa", sum := "8e7318152dd1f8eac88ad4c4f7076a736b391bb1006e217b17d973d57bf3de55", func := "pairworks/pairworkslaw01.PairEnds", spec := "pairEnds", unfollowed := true, recurses := true, apart := false, narrowed := true }
def PairEndsUptoSaid : Prop := pairEndsUptoRow.holds Try.pinned (OpenSpec.upto pairEndsSpec)

/-- 'pairworkslaw01.PairWhy', WHERE WHAT IT READS IS OF BULK AT MOST 1048576: true; the input reads as it did. -/
def pairWhyUptoRow : OpenClaim := { program := "ythppnhjggdebbaa", sum := "8e7318152dd1f8eac88ad4c4f7076a736b391bb1006e217b17d973d57bf3de55", func := "pairworks/pairworkslaw01.PairWhy", spec := "pairWhy", unfollowed := true, recurses := true, apart := false, narrowed := true }
def PairWhyUptoSaid : Prop := pairWhyUptoRow.holds Try.pinned (OpenSpec.upto pairWhySpec)

/-- 'pairworkslaw01.PairFewest', WHERE WHAT IT READS IS OF BULK AT MOST 1048576: true; the input reads as it did. -/
def pairFewestUptoRow : OpenClaim := { program := "ythppnhjggdebbaa", sum := "8e7318152dd1f8eac88ad4c4f7076a736b391bb1006e217b17d973d57bf3de55", func := "pairworks/pairworkslaw01.PairFewest", spec := "pairFewest", unfollowed := true, recurses := true, apart := false, narrowed := true }
def PairFewestUptoSaid : Prop := pairFewestUptoRow.holds Try.pinned (OpenSpec.upto pairFewestSpec)

/-- 'pairworkslaw01.PairNearer', WHERE WHAT IT READS IS OF BULK AT MOST 1048576: true; the input reads as it did. -/
def pairNearerUptoRow : OpenClaim := { program := "ythppnhjggdebbaa", sum := "8e7318152dd1f8eac88ad4c4f7076a736b391bb1006e217b17d973d57bf3de55", func := "pairworks/pairworkslaw01.PairNearer", spec := "pairNearer", unfollowed := true, recurses := true, apart := false, narrowed := true }
def PairNearerUptoSaid : Prop := pairNearerUptoRow.holds Try.pinned (OpenSpec.upto pairNearerSpec)

/-- 'pairworkslaw01.PairMore', WHERE WHAT IT READS IS OF BULK AT MOST 1048576: true; the input reads as it did. -/
def pairMoreUptoRow : OpenClaim := { program := "ythppnhjggdebbaa", sum := "8e7318152dd1f8eac88ad4c4f7076a736b391bb1006e217b17d973d57bf3de55", func := "pairworks/pairworkslaw01.PairMore", spec := "pairMore", unfollowed := true, recurses := true, apart := false, narrowed := true }
def PairMoreUptoSaid : Prop := pairMoreUptoRow.holds Try.pinned (OpenSpec.upto pairMoreSpec)

/-- 'pairworkslaw01.PairTurned', WHERE WHAT IT READS IS OF BULK AT MOST 1048576: true; the input reads as it did. -/
def pairTurnedUptoRow : OpenClaim := { program := "ythppnhjggdebbaa", sum := "8e7318152dd1f8eac88ad4c4f7076a736b391bb1006e217b17d973d57bf3de55", func := "pairworks/pairworkslaw01.PairTurned", spec := "pairTurned", unfollowed := true, recurses := true, apart := false, narrowed := true }
def PairTurnedUptoSaid : Prop := pairTurnedUptoRow.holds Try.pinned (OpenSpec.upto pairTurnedSpec)

end Rows
end Go.Proofs.Ythppnhjggdebbaa
