/- Whatever the card: MountTrims returns true and leaves its argument as it was. No condition. -/
import Derived.Test.YthoheicppmbepaaGreatRows
import Derived.Test.YthoheicppmbepaaGreatZe
set_option linter.unusedSimpArgs false
set_option linter.unusedVariables false
namespace Go.Proofs.YthoheicppmbepaaGreat
open Go Go.Eng Go.Pw1
open Go.ChangeShapes Go.WideShapes Go.ChangeAt Go.RowKit

theorem mTrims_walk (W : World) (vs : List Value) (h : RdAll W [cdSh] vs) : Calls Tryz.prog 4 vs.toArray W (Pure (.bool true) W) := by
  cases h with
  | cons h0 h =>
  cases h
  obtain ⟨c, q, b, o, cap, rfl, hp⟩ := rd_cd h0
  exact trimsL_calls c q b o cap W hp.s
namespace mountTrims
theorem own : ownKnob Tryz.prog.godebug = none := by kernel_rfl
theorem laidOut : laidOutB Tryz.prog = true := by kernel_rfl
set_option maxRecDepth 100000 in
theorem lifted (os : Os) (started : os.Started) (H : Type) (enc : TypeId × Value → H) :
    ReturnsInHanded {} Tryz.checked os 4 .any (Rows.mountTrimsSpec.pre6 enc Tryz.prog Tryz.f4 Rows.mountTrimsRow.domain false) (Rows.mountTrimsSpec.post enc Tryz.prog Tryz.f4 false true false false) := by
  refine returnsInHanded_of_change (C := Tryz.checked) own started (by kernel_rfl) Tryz.func4
    (ChangeSpec.witness6 (enc := enc) (C := Tryz.checked) false ⟨#[], #[.agg #[.int .i64 0, .int .i64 0, .int .i64 0, .int .i64 0, .int .i64 0, .int .i64 0, .int .i64 0, .slice none 0 0, .int .i64 0, .int .i64 0, .int .i64 0, .int .i64 0, .int .i64 0, .int .i64 0, .int .i64 0, .int .i64 0, .int .i64 0]], []⟩ 8 (by kernel_rfl) (by kernel_rfl) (by kernel_rfl) (by kernel_rfl)) ?_
  intro W base args ds gs before hval hW hcnd _
  exact law_contract (n := 9) (shs := [cdSh]) (tb := 4) laidOut (by kernel_rfl) (by kernel_rfl) (by kernel_rfl) (by kernel_rfl) rfl (fun ds hd => by
    match ds, hd with
    | [d0], _ => rfl) (mTrims_walk) hval hW
theorem over : Rows.mountTrimsRow.holds Tryz.pinned (OpenSpec.ofChange Rows.mountTrimsSpec) :=
  OpenClaim.holds_of_wide 4 Tryz.f4 rfl rfl rfl rfl rfl rfl rfl ⟨rfl, rfl, rfl, rfl, rfl⟩ rfl rfl rfl rfl rfl (by kernel_rfl) Tryz.func4 (by kernel_rfl)
    (of_decide_eq_true (by kernel_rfl)) (by unfold Func.isWrapper; first | (rw [if_pos (by decide +kernel)]; kernel_rfl) | (rw [if_neg (by decide +kernel)]; exact ⟨rfl, rfl⟩))
    (fun os started H enc _ => lifted os started H enc)
end mountTrims
theorem mountTrims_holds : Rows.MountTrimsSaid := mountTrims.over
#print axioms mountTrims_holds
end Go.Proofs.YthoheicppmbepaaGreat
