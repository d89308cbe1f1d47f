/- Whatever the pair, the number of a thing and the number by which it is moved: PairTurned returns true and leaves its arguments as they were. No condition. -/
import Derived.Test.YthppnhjggdebbaaRows
import Derived.Test.YthppnhjggdebbaaLf
set_option linter.unusedSimpArgs false
set_option linter.unusedVariables false
namespace Go.Proofs.Ythppnhjggdebbaa
open Go Go.Eng Go.Pw1
open Go.ChangeShapes Go.WideShapes Go.ChangeAt Go.RowKit

theorem pTurned_walk (W : World) (vs : List Value) (h : RdAll W [prSh, .int .i64, .int .i16] vs) : Calls Try.prog 11 vs.toArray W (Pure (.bool true) W) := by
  cases h with
  | cons h0 h =>
  cases h with
  | cons h1 h =>
  cases h with
  | cons h2 h =>
  cases h
  cases h1
  cases h2 with
  | int hw =>
  obtain ⟨p, q, b, o, cap, rfl, hp⟩ := rd_pr h0
  exact turned_calls p _ _ (by simpa [Lit.wf, IntKind.min, IntKind.max, IntKind.signed, IntKind.bits] using hw) q b o cap W hp.s
namespace pairTurned
theorem own : ownKnob Try.prog.godebug = none := by kernel_rfl
theorem laidOut : laidOutB Try.prog = true := by kernel_rfl
set_option maxRecDepth 100000 in
theorem lifted (os : Os) (started : os.Started) (H : Type) (enc : TypeId × Value → H) :
    ReturnsInHanded {} Try.checked os 11 .any (Rows.pairTurnedSpec.pre6 enc Try.prog Try.f11 Rows.pairTurnedRow.domain false) (Rows.pairTurnedSpec.post enc Try.prog Try.f11 false true false false) := by
  refine returnsInHanded_of_change (C := Try.checked) own started (by kernel_rfl) Try.func11
    (ChangeSpec.witness6 (enc := enc) (C := Try.checked) false ⟨#[], #[.agg #[.int .i64 0, .int .i64 0, .int .i64 0, .int .i64 0, .int .i64 0, .int .i64 0, .int .i64 0, .slice none 0 0], .int .i64 0, .int .i16 0], []⟩ 8 (by kernel_rfl) (by kernel_rfl) (by kernel_rfl) (by kernel_rfl)) ?_
  intro W base args ds gs before hval hW hcnd _
  exact law_contract (n := 9) (shs := [prSh, .int .i64, .int .i16]) (tb := 4) laidOut (by kernel_rfl) (by kernel_rfl) (by kernel_rfl) (by kernel_rfl) rfl (fun ds hd => by
    match ds, hd with
    | [d0, d1, d2], _ => rfl) (pTurned_walk) hval hW
theorem over : Rows.pairTurnedRow.holds Try.pinned (OpenSpec.ofChange Rows.pairTurnedSpec) :=
  OpenClaim.holds_of_wide 11 Try.f11 rfl rfl rfl rfl rfl rfl rfl ⟨rfl, rfl, rfl, rfl, rfl⟩ rfl rfl rfl rfl rfl (by kernel_rfl) Try.func11 (by kernel_rfl)
    (of_decide_eq_true (by kernel_rfl)) (by unfold Func.isWrapper; first | (rw [if_pos (by decide +kernel)]; kernel_rfl) | (rw [if_neg (by decide +kernel)]; exact ⟨rfl, rfl⟩))
    (fun os started H enc _ => lifted os started H enc)
end pairTurned
theorem pairTurned_holds : Rows.PairTurnedSaid := pairTurned.over
#print axioms pairTurned_holds
end Go.Proofs.Ythppnhjggdebbaa
