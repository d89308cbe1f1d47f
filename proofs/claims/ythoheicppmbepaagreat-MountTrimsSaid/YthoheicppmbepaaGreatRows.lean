/-
  No cell of these rows narrows 'for every input' (looked for: loops, veiled, ifaces, maps, wideKeys, modest, calm, conditions, laid).
  DERIVED. THE GIVEN ROWS OF THIS SEAT. 2 by the template 'for every input the law returns true; each argument reads behind the call as it read before'; 0 by the template 'total and deterministic' (their statements: YthoheicppmbepaaGreatTotals.lean).
  GIVEN WITH THE SEED: the statements are not yours to turn. If you find one false, say at which input.
  Laid BY PROGRAM, IN A SANDBOX (cutbox-rows.mjs): the forced cells as the released guide's own fill.sh prints them over the translation 2a82decc458e6e0f… (all of the seat's roots in one cut). By AI agents, Wed Nov 11 2026. No macro, syntax, notation, axiom, sorry.
-/
import Derived.Test.YthoheicppmbepaaGreatChecked
import GoSem.Claim
import GoSem.ClaimJoined
import GoSem.ClaimMapViews
import Derived.JoinedTies
import Derived.KernelRfl
namespace Go.Proofs.YthoheicppmbepaaGreat
/- THE CELL 'sum', in the pinned program and in every row, IS THE sha256 OF THE DUMP (.gsa) THAT YthoheicppmbepaaGreatProg.lean LOADS. Nothing in Lean hashes anything: it is a label: what it is worth is what the hold of that sum in a sandbox is worth. -/
noncomputable def Tryz.pinned : Pinned := { name := "ythoheicppmbepaagreat", sum := "2a82decc458e6e0f21743f83d97eeb3e10361a516fd711f225cfce128c65bc7e", checked := Tryz.checked }
namespace Rows
def none {H : Type} : Left H := { results := [], args := [] }

/-- 'pairworkslaw03.MountHurts': WHATEVER THE INPUT: true; the input reads as it did. -/
def mountHurtsSpec : ChangeSpec := { name := "mountHurts", fn := fun _ => fun
  | [d1, d2] => { results := [.lit (.bool true)], args := [d1, d2] }
  | _ => none }
def mountHurtsRow : OpenClaim := { program := "ythoheicppmbepaagreat", sum := "2a82decc458e6e0f21743f83d97eeb3e10361a516fd711f225cfce128c65bc7e", func := "pairworks/pairworkslaw03.MountHurts", spec := "mountHurts", unfollowed := true, recurses := true, apart := false }
def MountHurtsSaid : Prop := mountHurtsRow.holds Tryz.pinned (OpenSpec.ofChange mountHurtsSpec)

/-- ITS FALSE NEIGHBOUR: 'it returns false'. Refute it at one input. -/
def mountHurtsWrong : ChangeSpec := { name := "mountHurts", fn := fun _ => fun
  | [d1, d2] => { results := [.lit (.bool false)], args := [d1, d2] }
  | _ => none }
def MountHurtsWrongFalsely : Prop := mountHurtsRow.holds Tryz.pinned (OpenSpec.ofChange mountHurtsWrong)

/-- 'pairworkslaw03.MountTrims': WHATEVER THE INPUT: true; the input reads as it did. -/
def mountTrimsSpec : ChangeSpec := { name := "mountTrims", fn := fun _ => fun
  | [d] => { results := [.lit (.bool true)], args := [d] }
  | _ => none }
def mountTrimsRow : OpenClaim := { program := "ythoheicppmbepaagreat", sum := "2a82decc458e6e0f21743f83d97eeb3e10361a516fd711f225cfce128c65bc7e", func := "pairworks/pairworkslaw03.MountTrims", spec := "mountTrims", unfollowed := true, recurses := true, apart := false }
def MountTrimsSaid : Prop := mountTrimsRow.holds Tryz.pinned (OpenSpec.ofChange mountTrimsSpec)

/-- ITS FALSE NEIGHBOUR: 'it returns false'. Refute it at one input. -/
def mountTrimsWrong : ChangeSpec := { name := "mountTrims", fn := fun _ => fun
  | [d] => { results := [.lit (.bool false)], args := [d] }
  | _ => none }
def MountTrimsWrongFalsely : Prop := mountTrimsRow.holds Tryz.pinned (OpenSpec.ofChange mountTrimsWrong)

/- THE SECOND FORM. 'bulk': how many values and letters a reading holds, each counted each time it is reached (what is shared counts as often as it is met; a slice's spare places count too). A statement '..UptoSaid' is the law's where the arguments, and the package variables that the reading takes, are together of bulk at most 1048576: NARROWER than '..Said'. Prove '..Said' where nothing that the law and all that it calls make is longer than what came in: it says more and counts as full. Else prove '..UptoSaid'. A law counts once. -/
mutual
def uptoBulk {H : Type} : DataW H → Nat
  | .lit (.string bytes) => bytes.length + 1
  | .lit _ => 1
  | .nil => 1
  | .ptr d => uptoBulk d + 1
  | .slice elems spare => uptoBulkAll elems + uptoBulkAll spare + 1
  | .agg parts => uptoBulkAll parts + 1
  | .iface _ d => uptoBulk d + 1
  | .map entries => uptoBulkEntries entries + 1
  | .held _ => 1
def uptoBulkAll {H : Type} : List (DataW H) → Nat
  | [] => 0
  | d :: r => uptoBulk d + uptoBulkAll r
def uptoBulkEntries {H : Type} : List (Lit × DataW H) → Nat
  | [] => 0
  | x :: r => uptoBulkEntry x + uptoBulkEntries r
def uptoBulkEntry {H : Type} : Lit × DataW H → Nat
  | (.string bytes, d) => bytes.length + uptoBulk d + 1
  | (_, d) => uptoBulk d + 1
 end
def uptoSmall : (H : Type) → List (DataW H) → Bool := fun _ ds => decide (uptoBulkAll ds ≤ 1048576)
def OpenSpec.upto (s : _root_.Go.ChangeSpec) : _root_.Go.OpenSpec := { _root_.Go.OpenSpec.ofChange s with cond := some uptoSmall }

/-- 'pairworkslaw03.MountHurts', WHERE WHAT IT READS IS OF BULK AT MOST 1048576: true; the input reads as it did. -/
def mountHurtsUptoRow : OpenClaim := { program := "ythoheicppmbepaagreat", sum := "2a82decc458e6e0f21743f83d97eeb3e10361a516fd711f225cfce128c65bc7e", func := "pairworks/pairworkslaw03.MountHurts", spec := "mountHurts", unfollowed := true, recurses := true, apart := false, narrowed := true }
def MountHurtsUptoSaid : Prop := mountHurtsUptoRow.holds Tryz.pinned (OpenSpec.upto mountHurtsSpec)

/-- 'pairworkslaw03.MountTrims', WHERE WHAT IT READS IS OF BULK AT MOST 1048576: true; the input reads as it did. -/
def mountTrimsUptoRow : OpenClaim := { program := "ythoheicppmbepaagreat", sum := "2a82decc458e6e0f21743f83d97eeb3e10361a516fd711f225cfce128c65bc7e", func := "pairworks/pairworkslaw03.MountTrims", spec := "mountTrims", unfollowed := true, recurses := true, apart := false, narrowed := true }
def MountTrimsUptoSaid : Prop := mountTrimsUptoRow.holds Tryz.pinned (OpenSpec.upto mountTrimsSpec)

end Rows
end Go.Proofs.YthoheicppmbepaaGreat
