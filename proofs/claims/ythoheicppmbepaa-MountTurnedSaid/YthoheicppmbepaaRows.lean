/-
  No cell of these rows narrows 'for every input' (looked for: loops, veiled, ifaces, maps, wideKeys, modest, calm, conditions, laid).
  DERIVED. THE GIVEN ROWS OF THIS SEAT. 7 by the template 'for every input the law returns true; each argument reads behind the call as it read before'; 0 by the template 'total and deterministic' (their statements: YthoheicppmbepaaTotals.lean).
  GIVEN WITH THE SEED: the statements are not yours to turn. If you find one false, say at which input.
  Laid BY PROGRAM, IN A SANDBOX (cutbox-rows.mjs): the forced cells as the released guide's own fill.sh prints them over the translation 57b9af01101e697e… (all of the seat's roots in one cut). By AI agents, Wed Nov 11 2026. No macro, syntax, notation, axiom, sorry.
-/
import Derived.Test.YthoheicppmbepaaChecked
import GoSem.Claim
import GoSem.ClaimJoined
import GoSem.ClaimMapViews
import Derived.JoinedTies
import Derived.KernelRfl
namespace Go.Proofs.Ythoheicppmbepaa
/- THE CELL 'sum', in the pinned program and in every row, IS THE sha256 OF THE DUMP (.gsa) THAT YthoheicppmbepaaProg.lean LOADS. Nothing in Lean hashes anything: it is a label: what it is worth is what the hold of that sum in a sandbox is worth. -/
noncomputable def Try.pinned : Pinned := { name := "ythoheicppmbepaa", sum := "57b9af01101e697ea043a08f77286dc413135b15cc40b2bcc1b9bbc8043e69b1", checked := Try.checked }
namespace Rows
def none {H : Type} : Left H := { results := [], args := [] }

/-- 'pairworkslaw03.MountTrue': WHATEVER THE INPUT: true; the input reads as it did. -/
def mountTrueSpec : ChangeSpec := { name := "mountTrue", fn := fun _ => fun
  | [d1, d2] => { results := [.lit (.bool true)], args := [d1, d2] }
  | _ => none }
def mountTrueRow : OpenClaim := { program := "ythoheicppmbepaa", sum := "57b9af01101e697ea043a08f77286dc413135b15cc40b2bcc1b9bbc8043e69b1", func := "pairworks/pairworkslaw03.MountTrue", spec := "mountTrue", unfollowed := true, recurses := true, apart := false }
def MountTrueSaid : Prop := mountTrueRow.holds Try.pinned (OpenSpec.ofChange mountTrueSpec)

/-- ITS FALSE NEIGHBOUR: 'it returns false'. Refute it at one input. -/
def mountTrueWrong : ChangeSpec := { name := "mountTrue", fn := fun _ => fun
  | [d1, d2] => { results := [.lit (.bool false)], args := [d1, d2] }
  | _ => none }
def MountTrueWrongFalsely : Prop := mountTrueRow.holds Try.pinned (OpenSpec.ofChange mountTrueWrong)

/-- 'pairworkslaw03.MountLeast': WHATEVER THE INPUT: true; the input reads as it did. -/
def mountLeastSpec : ChangeSpec := { name := "mountLeast", fn := fun _ => fun
  | [d1, d2] => { results := [.lit (.bool true)], args := [d1, d2] }
  | _ => none }
def mountLeastRow : OpenClaim := { program := "ythoheicppmbepaa", sum := "57b9af01101e697ea043a08f77286dc413135b15cc40b2bcc1b9bbc8043e69b1", func := "pairworks/pairworkslaw03.MountLeast", spec := "mountLeast", unfollowed := true, recurses := true, apart := false }
def MountLeastSaid : Prop := mountLeastRow.holds Try.pinned (OpenSpec.ofChange mountLeastSpec)

/-- ITS FALSE NEIGHBOUR: 'it returns false'. Refute it at one input. -/
def mountLeastWrong : ChangeSpec := { name := "mountLeast", fn := fun _ => fun
  | [d1, d2] => { results := [.lit (.bool false)], args := [d1, d2] }
  | _ => none }
def MountLeastWrongFalsely : Prop := mountLeastRow.holds Try.pinned (OpenSpec.ofChange mountLeastWrong)

/-- 'pairworkslaw03.MountWhy': WHATEVER THE INPUT: true; the input reads as it did. -/
def mountWhySpec : ChangeSpec := { name := "mountWhy", fn := fun _ => fun
  | [d1, d2] => { results := [.lit (.bool true)], args := [d1, d2] }
  | _ => none }
def mountWhyRow : OpenClaim := { program := "ythoheicppmbepaa", sum := "57b9af01101e697ea043a08f77286dc413135b15cc40b2bcc1b9bbc8043e69b1", func := "pairworks/pairworkslaw03.MountWhy", spec := "mountWhy", unfollowed := true, recurses := true, apart := false }
def MountWhySaid : Prop := mountWhyRow.holds Try.pinned (OpenSpec.ofChange mountWhySpec)

/-- ITS FALSE NEIGHBOUR: 'it returns false'. Refute it at one input. -/
def mountWhyWrong : ChangeSpec := { name := "mountWhy", fn := fun _ => fun
  | [d1, d2] => { results := [.lit (.bool false)], args := [d1, d2] }
  | _ => none }
def MountWhyWrongFalsely : Prop := mountWhyRow.holds Try.pinned (OpenSpec.ofChange mountWhyWrong)

/-- 'pairworkslaw03.MountEyes': WHATEVER THE INPUT: true; the input reads as it did. -/
def mountEyesSpec : ChangeSpec := { name := "mountEyes", fn := fun _ => fun
  | [d1, d2] => { results := [.lit (.bool true)], args := [d1, d2] }
  | _ => none }
def mountEyesRow : OpenClaim := { program := "ythoheicppmbepaa", sum := "57b9af01101e697ea043a08f77286dc413135b15cc40b2bcc1b9bbc8043e69b1", func := "pairworks/pairworkslaw03.MountEyes", spec := "mountEyes", unfollowed := true, recurses := true, apart := false }
def MountEyesSaid : Prop := mountEyesRow.holds Try.pinned (OpenSpec.ofChange mountEyesSpec)

/-- ITS FALSE NEIGHBOUR: 'it returns false'. Refute it at one input. -/
def mountEyesWrong : ChangeSpec := { name := "mountEyes", fn := fun _ => fun
  | [d1, d2] => { results := [.lit (.bool false)], args := [d1, d2] }
  | _ => none }
def MountEyesWrongFalsely : Prop := mountEyesRow.holds Try.pinned (OpenSpec.ofChange mountEyesWrong)

/-- 'pairworkslaw03.MountDepths': WHATEVER THE INPUT: true; the input reads as it did. -/
def mountDepthsSpec : ChangeSpec := { name := "mountDepths", fn := fun _ => fun
  | [d1, d2, d3] => { results := [.lit (.bool true)], args := [d1, d2, d3] }
  | _ => none }
def mountDepthsRow : OpenClaim := { program := "ythoheicppmbepaa", sum := "57b9af01101e697ea043a08f77286dc413135b15cc40b2bcc1b9bbc8043e69b1", func := "pairworks/pairworkslaw03.MountDepths", spec := "mountDepths", unfollowed := true, recurses := true, apart := false }
def MountDepthsSaid : Prop := mountDepthsRow.holds Try.pinned (OpenSpec.ofChange mountDepthsSpec)

/-- ITS FALSE NEIGHBOUR: 'it returns false'. Refute it at one input. -/
def mountDepthsWrong : ChangeSpec := { name := "mountDepths", fn := fun _ => fun
  | [d1, d2, d3] => { results := [.lit (.bool false)], args := [d1, d2, d3] }
  | _ => none }
def MountDepthsWrongFalsely : Prop := mountDepthsRow.holds Try.pinned (OpenSpec.ofChange mountDepthsWrong)

/-- 'pairworkslaw03.MountMore': WHATEVER THE INPUT: true; the input reads as it did. -/
def mountMoreSpec : ChangeSpec := { name := "mountMore", fn := fun _ => fun
  | [d1, d2, d3] => { results := [.lit (.bool true)], args := [d1, d2, d3] }
  | _ => none }
def mountMoreRow : OpenClaim := { program := "ythoheicppmbepaa", sum := "57b9af01101e697ea043a08f77286dc413135b15cc40b2bcc1b9bbc8043e69b1", func := "pairworks/pairworkslaw03.MountMore", spec := "mountMore", unfollowed := true, recurses := true, apart := false }
def MountMoreSaid : Prop := mountMoreRow.holds Try.pinned (OpenSpec.ofChange mountMoreSpec)

/-- ITS FALSE NEIGHBOUR: 'it returns false'. Refute it at one input. -/
def mountMoreWrong : ChangeSpec := { name := "mountMore", fn := fun _ => fun
  | [d1, d2, d3] => { results := [.lit (.bool false)], args := [d1, d2, d3] }
  | _ => none }
def MountMoreWrongFalsely : Prop := mountMoreRow.holds Try.pinned (OpenSpec.ofChange mountMoreWrong)

/-- 'pairworkslaw03.MountTurned': WHATEVER THE INPUT: true; the input reads as it did. -/
def mountTurnedSpec : ChangeSpec := { name := "mountTurned", fn := fun _ => fun
  | [d1, d2] => { results := [.lit (.bool true)], args := [d1, d2] }
  | _ => none }
def mountTurnedRow : OpenClaim := { program := "ythoheicppmbepaa", sum := "57b9af01101e697ea043a08f77286dc413135b15cc40b2bcc1b9bbc8043e69b1", func := "pairworks/pairworkslaw03.MountTurned", spec := "mountTurned", unfollowed := true, recurses := true, apart := false }
def MountTurnedSaid : Prop := mountTurnedRow.holds Try.pinned (OpenSpec.ofChange mountTurnedSpec)

/-- ITS FALSE NEIGHBOUR: 'it returns false'. Refute it at one input. -/
def mountTurnedWrong : ChangeSpec := { name := "mountTurned", fn := fun _ => fun
  | [d1, d2] => { results := [.lit (.bool false)], args := [d1, d2] }
  | _ => none }
def MountTurnedWrongFalsely : Prop := mountTurnedRow.holds Try.pinned (OpenSpec.ofChange mountTurnedWrong)

/- THE SECOND FORM. 'bulk': how many values and letters a reading holds, each counted each time it is reached (what is shared counts as often as it is met; a slice's spare places count too). A statement '..UptoSaid' is the law's where the arguments, and the package variables that the reading takes, are together of bulk at most 1048576: NARROWER than '..Said'. Prove '..Said' where nothing that the law and all that it calls make is longer than what came in: it says more and counts as full. Else prove '..UptoSaid'. A law counts once. -/
mutual
def uptoBulk {H : Type} : DataW H → Nat
  | .lit (.string bytes) => bytes.length + 1
  | .lit _ => 1
  | .nil => 1
  | .ptr d => uptoBulk d + 1
  | .slice elems spare => uptoBulkAll elems + uptoBulkAll spare + 1
  | .agg parts => uptoBulkAll parts + 1
  | .iface _ d => uptoBulk d + 1
  | .map entries => uptoBulkEntries entries + 1
  | .held _ => 1
def uptoBulkAll {H : Type} : List (DataW H) → Nat
  | [] => 0
  | d :: r => uptoBulk d + uptoBulkAll r
def uptoBulkEntries {H : Type} : List (Lit × DataW H) → Nat
  | [] => 0
  | x :: r => uptoBulkEntry x + uptoBulkEntries r
def uptoBulkEntry {H : Type} : Lit × DataW H → Nat
  | (.string bytes, d) => bytes.length + uptoBulk d + 1
  | (_, d) => uptoBulk d + 1
 end
def uptoSmall : (H : Type) → List (DataW H) → Bool := fun _ ds => decide (uptoBulkAll ds ≤ 1048576)
def OpenSpec.upto (s : _root_.Go.ChangeSpec) : _root_.Go.OpenSpec := { _root_.Go.OpenSpec.ofChange s with cond := some uptoSmall }

/-- 'pairworkslaw03.MountTrue', WHERE WHAT IT READS IS OF BULK AT MOST 1048576: true; the input reads as it did. -/
def mountTrueUptoRow : OpenClaim := { program := "ythoheicppmbepaa", sum := "57b9af01101e697ea043a08f77286dc413135b15cc40b2bcc1b9bbc8043e69b1", func := "pairworks/pairworkslaw03.MountTrue", spec := "mountTrue", unfollowed := true, recurses := true, apart := false, narrowed := true }
def MountTrueUptoSaid : Prop := mountTrueUptoRow.holds Try.pinned (OpenSpec.upto mountTrueSpec)

/-- 'pairworkslaw03.MountLeast', WHERE WHAT IT READS IS OF BULK AT MOST 1048576: true; the input reads as it did. -/
def mountLeastUptoRow : OpenClaim := { program := "ythoheicppmbepaa", sum := "57b9af01101e697ea043a08f77286dc413135b15cc40b2bcc1b9bbc8043e69b1", func := "pairworks/pairworkslaw03.MountLeast", spec := "mountLeast", unfollowed := true, recurses := true, apart := false, narrowed := true }
def MountLeastUptoSaid : Prop := mountLeastUptoRow.holds Try.pinned (OpenSpec.upto mountLeastSpec)

/-- 'pairworkslaw03.MountWhy', WHERE WHAT IT READS IS OF BULK AT MOST 1048576: true; the input reads as it did. -/
def mountWhyUptoRow : OpenClaim := { program := "ythoheicppmbepaa", sum := "57b9af01101e697ea043a08f77286dc413135b15cc40b2bcc1b9bbc8043e69b1", func := "pairworks/pairworkslaw03.MountWhy", spec := "mountWhy", unfollowed := true, recurses := true, apart := false, narrowed := true }
def MountWhyUptoSaid : Prop := mountWhyUptoRow.holds Try.pinned (OpenSpec.upto mountWhySpec)

/-- 'pairworkslaw03.MountEyes', WHERE WHAT IT READS IS OF BULK AT MOST 1048576: true; the input reads as it did. -/
def mountEyesUptoRow : OpenClaim := { program := "ythoheicppmbepaa", sum := "57b9af01101e697ea043a08f77286dc413135b15cc40b2bcc1b9bbc8043e69b1", func := "pairworks/pairworkslaw03.MountEyes", spec := "mountEyes", unfollowed := true, recurses := true, apart := false, narrowed := true }
def MountEyesUptoSaid : Prop := mountEyesUptoRow.holds Try.pinned (OpenSpec.upto mountEyesSpec)

/-- 'pairworkslaw03.MountDepths', WHERE WHAT IT READS IS OF BULK AT MOST 1048576: true; the input reads as it did. -/
def mountDepthsUptoRow : OpenClaim := { program := "ythoheicppmbepaa", sum := "57b9af01101e697ea043a08f77286dc413135b15cc40b2bcc1b9bbc8043e69b1", func := "pairworks/pairworkslaw03.MountDepths", spec := "mountDepths", unfollowed := true, recurses := true, apart := false, narrowed := true }
def MountDepthsUptoSaid : Prop := mountDepthsUptoRow.holds Try.pinned (OpenSpec.upto mountDepthsSpec)

/-- 'pairworkslaw03.MountMore', WHERE WHAT IT READS IS OF BULK AT MOST 1048576: true; the input reads as it did. -/
def mountMoreUptoRow : OpenClaim := { program := "ythoheicppmbepaa", sum := "57b9af01101e697ea043a08f77286dc413135b15cc40b2bcc1b9bbc8043e69b1", func := "pairworks/pairworkslaw03.MountMore", spec := "mountMore", unfollowed := true, recurses := true, apart := false, narrowed := true }
def MountMoreUptoSaid : Prop := mountMoreUptoRow.holds Try.pinned (OpenSpec.upto mountMoreSpec)

/-- 'pairworkslaw03.MountTurned', WHERE WHAT IT READS IS OF BULK AT MOST 1048576: true; the input reads as it did. -/
def mountTurnedUptoRow : OpenClaim := { program := "ythoheicppmbepaa", sum := "57b9af01101e697ea043a08f77286dc413135b15cc40b2bcc1b9bbc8043e69b1", func := "pairworks/pairworkslaw03.MountTurned", spec := "mountTurned", unfollowed := true, recurses := true, apart := false, narrowed := true }
def MountTurnedUptoSaid : Prop := mountTurnedUptoRow.holds Try.pinned (OpenSpec.upto mountTurnedSpec)

end Rows
end Go.Proofs.Ythoheicppmbepaa
