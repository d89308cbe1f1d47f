/- Whatever the card and the trimming: MountEyes returns true and leaves its arguments as they were. No condition. -/
import Derived.Test.YthoheicppmbepaaRows
import Derived.Test.YthoheicppmbepaaMn
set_option linter.unusedSimpArgs false
set_option linter.unusedVariables false
namespace Go.Proofs.Ythoheicppmbepaa
open Go Go.Eng Go.Pw1
open Go.ChangeShapes Go.WideShapes Go.ChangeAt Go.RowKit

theorem mEyes_walk (W : World) (vs : List Value) (h : RdAll W [cdSh, cuSh] vs) : Calls Try.prog 6 vs.toArray W (Pure (.bool true) W) := by
  cases h with
  | cons h0 h =>
  cases h with
  | cons h1 h =>
  cases h
  obtain ⟨c, q, b, o, cap, rfl, hp⟩ := rd_cd h0
  obtain ⟨t, rfl⟩ := rd_cu h1
  exact meyes_calls c t q b o cap W hp.s
namespace mountEyes
theorem own : ownKnob Try.prog.godebug = none := by kernel_rfl
theorem laidOut : laidOutB Try.prog = true := by kernel_rfl
set_option maxRecDepth 100000 in
theorem lifted (os : Os) (started : os.Started) (H : Type) (enc : TypeId × Value → H) :
    ReturnsInHanded {} Try.checked os 6 .any (Rows.mountEyesSpec.pre6 enc Try.prog Try.f6 Rows.mountEyesRow.domain false) (Rows.mountEyesSpec.post enc Try.prog Try.f6 false true false false) := by
  refine returnsInHanded_of_change (C := Try.checked) own started (by kernel_rfl) Try.func6
    (ChangeSpec.witness6 (enc := enc) (C := Try.checked) false ⟨#[], #[.agg #[.int .i64 0, .int .i64 0, .int .i64 0, .int .i64 0, .int .i64 0, .int .i64 0, .int .i64 0, .slice none 0 0, .int .i64 0, .int .i64 0, .int .i64 0, .int .i64 0, .int .i64 0, .int .i64 0, .int .i64 0, .int .i64 0, .int .i64 0], .agg #[.int .i64 0, .int .i64 0, .int .i64 0, .int .i64 0]], []⟩ 8 (by kernel_rfl) (by kernel_rfl) (by kernel_rfl) (by kernel_rfl)) ?_
  intro W base args ds gs before hval hW hcnd _
  exact law_contract (n := 9) (shs := [cdSh, cuSh]) (tb := 4) laidOut (by kernel_rfl) (by kernel_rfl) (by kernel_rfl) (by kernel_rfl) rfl (fun ds hd => by
    match ds, hd with
    | [d0, d1], _ => rfl) (mEyes_walk) hval hW
theorem over : Rows.mountEyesRow.holds Try.pinned (OpenSpec.ofChange Rows.mountEyesSpec) :=
  OpenClaim.holds_of_wide 6 Try.f6 rfl rfl rfl rfl rfl rfl rfl ⟨rfl, rfl, rfl, rfl, rfl⟩ rfl rfl rfl rfl rfl (by kernel_rfl) Try.func6 (by kernel_rfl)
    (of_decide_eq_true (by kernel_rfl)) (by unfold Func.isWrapper; first | (rw [if_pos (by decide +kernel)]; kernel_rfl) | (rw [if_neg (by decide +kernel)]; exact ⟨rfl, rfl⟩))
    (fun os started H enc _ => lifted os started H enc)
end mountEyes
theorem mountEyes_holds : Rows.MountEyesSaid := mountEyes.over
#print axioms mountEyes_holds
end Go.Proofs.Ythoheicppmbepaa
