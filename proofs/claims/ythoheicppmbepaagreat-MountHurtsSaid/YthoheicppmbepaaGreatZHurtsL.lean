/- Whatever the card and the trimming: MountHurts returns true and leaves its arguments as they were. No condition. -/
import Derived.Test.YthoheicppmbepaaGreatRows
import Derived.Test.YthoheicppmbepaaGreatZe
set_option linter.unusedSimpArgs false
set_option linter.unusedVariables false
namespace Go.Proofs.YthoheicppmbepaaGreat
open Go Go.Eng Go.Pw1
open Go.ChangeShapes Go.WideShapes Go.ChangeAt Go.RowKit

theorem mHurts_walk (W : World) (vs : List Value) (h : RdAll W [cdSh, cuSh] vs) : Calls Tryz.prog 3 vs.toArray W (Pure (.bool true) W) := by
  cases h with
  | cons h0 h =>
  cases h with
  | cons h1 h =>
  cases h
  obtain ⟨c, q, b, o, cap, rfl, hp⟩ := rd_cd h0
  obtain ⟨t, rfl⟩ := rd_cu h1
  exact hurtsL_calls c t q b o cap W hp.s
namespace mountHurts
theorem own : ownKnob Tryz.prog.godebug = none := by kernel_rfl
theorem laidOut : laidOutB Tryz.prog = true := by kernel_rfl
set_option maxRecDepth 100000 in
theorem lifted (os : Os) (started : os.Started) (H : Type) (enc : TypeId × Value → H) :
    ReturnsInHanded {} Tryz.checked os 3 .any (Rows.mountHurtsSpec.pre6 enc Tryz.prog Tryz.f3 Rows.mountHurtsRow.domain false) (Rows.mountHurtsSpec.post enc Tryz.prog Tryz.f3 false true false false) := by
  refine returnsInHanded_of_change (C := Tryz.checked) own started (by kernel_rfl) Tryz.func3
    (ChangeSpec.witness6 (enc := enc) (C := Tryz.checked) false ⟨#[], #[.agg #[.int .i64 0, .int .i64 0, .int .i64 0, .int .i64 0, .int .i64 0, .int .i64 0, .int .i64 0, .slice none 0 0, .int .i64 0, .int .i64 0, .int .i64 0, .int .i64 0, .int .i64 0, .int .i64 0, .int .i64 0, .int .i64 0, .int .i64 0], .agg #[.int .i64 0, .int .i64 0, .int .i64 0, .int .i64 0]], []⟩ 8 (by kernel_rfl) (by kernel_rfl) (by kernel_rfl) (by kernel_rfl)) ?_
  intro W base args ds gs before hval hW hcnd _
  exact law_contract (n := 9) (shs := [cdSh, cuSh]) (tb := 4) laidOut (by kernel_rfl) (by kernel_rfl) (by kernel_rfl) (by kernel_rfl) rfl (fun ds hd => by
    match ds, hd with
    | [d0, d1], _ => rfl) (mHurts_walk) hval hW
theorem over : Rows.mountHurtsRow.holds Tryz.pinned (OpenSpec.ofChange Rows.mountHurtsSpec) :=
  OpenClaim.holds_of_wide 3 Tryz.f3 rfl rfl rfl rfl rfl rfl rfl ⟨rfl, rfl, rfl, rfl, rfl⟩ rfl rfl rfl rfl rfl (by kernel_rfl) Tryz.func3 (by kernel_rfl)
    (of_decide_eq_true (by kernel_rfl)) (by unfold Func.isWrapper; first | (rw [if_pos (by decide +kernel)]; kernel_rfl) | (rw [if_neg (by decide +kernel)]; exact ⟨rfl, rfl⟩))
    (fun os started H enc _ => lifted os started H enc)
end mountHurts
theorem mountHurts_holds : Rows.MountHurtsSaid := mountHurts.over
#print axioms mountHurts_holds
end Go.Proofs.YthoheicppmbepaaGreat
