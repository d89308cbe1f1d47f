/- Whatever the pair, the number of a thing and the number by which the other distance is made: PairEnds returns true and leaves its arguments as they were. No condition. -/
import Derived.Test.YthppnhjggdebbaaRows
import Derived.Test.YthppnhjggdebbaaLe
set_option linter.unusedSimpArgs false
set_option linter.unusedVariables false
namespace Go.Proofs.Ythppnhjggdebbaa
open Go Go.Eng Go.Pw1
open Go.ChangeShapes Go.WideShapes Go.ChangeAt Go.RowKit

theorem pEnds_walk (W : World) (vs : List Value) (h : RdAll W [prSh, .int .i64, .int .u32] vs) : Calls Try.prog 6 vs.toArray W (Pure (.bool true) W) := by
  cases h with
  | cons h0 h =>
  cases h with
  | cons h1 h =>
  cases h with
  | cons h2 h =>
  cases h
  cases h1
  cases h2 with
  | int hw =>
  obtain ⟨p, q, b, o, cap, rfl, hp⟩ := rd_pr h0
  exact ends_calls p _ _ (by simpa [Lit.wf, IntKind.min, IntKind.max, IntKind.signed, IntKind.bits] using hw) q b o cap W hp.s
namespace pairEnds
theorem own : ownKnob Try.prog.godebug = none := by kernel_rfl
theorem laidOut : laidOutB Try.prog = true := by kernel_rfl
set_option maxRecDepth 100000 in
theorem lifted (os : Os) (started : os.Started) (H : Type) (enc : TypeId × Value → H) :
    ReturnsInHanded {} Try.checked os 6 .any (Rows.pairEndsSpec.pre6 enc Try.prog Try.f6 Rows.pairEndsRow.domain false) (Rows.pairEndsSpec.post enc Try.prog Try.f6 false true false false) := by
  refine returnsInHanded_of_change (C := Try.checked) own started (by kernel_rfl) Try.func6
    (ChangeSpec.witness6 (enc := enc) (C := Try.checked) false ⟨#[], #[.agg #[.int .i64 0, .int .i64 0, .int .i64 0, .int .i64 0, .int .i64 0, .int .i64 0, .int .i64 0, .slice none 0 0], .int .i64 0, .int .u32 0], []⟩ 8 (by kernel_rfl) (by kernel_rfl) (by kernel_rfl) (by kernel_rfl)) ?_
  intro W base args ds gs before hval hW hcnd _
  exact law_contract (n := 9) (shs := [prSh, .int .i64, .int .u32]) (tb := 4) laidOut (by kernel_rfl) (by kernel_rfl) (by kernel_rfl) (by kernel_rfl) rfl (fun ds hd => by
    match ds, hd with
    | [d0, d1, d2], _ => rfl) (pEnds_walk) hval hW
theorem over : Rows.pairEndsRow.holds Try.pinned (OpenSpec.ofChange Rows.pairEndsSpec) :=
  OpenClaim.holds_of_wide 6 Try.f6 rfl rfl rfl rfl rfl rfl rfl ⟨rfl, rfl, rfl, rfl, rfl⟩ rfl rfl rfl rfl rfl (by kernel_rfl) Try.func6 (by kernel_rfl)
    (of_decide_eq_true (by kernel_rfl)) (by unfold Func.isWrapper; first | (rw [if_pos (by decide +kernel)]; kernel_rfl) | (rw [if_neg (by decide +kernel)]; exact ⟨rfl, rfl⟩))
    (fun os started H enc _ => lifted os started H enc)
end pairEnds
theorem pairEnds_holds : Rows.PairEndsSaid := pairEnds.over
#print axioms pairEnds_holds
end Go.Proofs.Ythppnhjggdebbaa
