/- Whatever the card and the trimming: MountTurned returns true and leaves its arguments as they were. No condition. -/
import Derived.Test.YthoheicppmbepaaRows
import Derived.Test.YthoheicppmbepaaMF
set_option linter.unusedSimpArgs false
set_option linter.unusedVariables false
namespace Go.Proofs.Ythoheicppmbepaa
open Go Go.Eng Go.Pw1
open Go.ChangeShapes Go.WideShapes Go.ChangeAt Go.RowKit

theorem mTurned_walk (W : World) (vs : List Value) (h : RdAll W [cdSh, cuSh] vs) : Calls Try.prog 9 vs.toArray W (Pure (.bool true) W) := by
  cases h with
  | cons h0 h =>
  cases h with
  | cons h1 h =>
  cases h
  obtain ⟨c, q, b, o, cap, rfl, hp⟩ := rd_cd h0
  obtain ⟨t, rfl⟩ := rd_cu h1
  exact turnL_calls c t q b o cap W hp.s
namespace mountTurned
theorem own : ownKnob Try.prog.godebug = none := by kernel_rfl
theorem laidOut : laidOutB Try.prog = true := by kernel_rfl
set_option maxRecDepth 100000 in
theorem lifted (os : Os) (started : os.Started) (H : Type) (enc : TypeId × Value → H) :
    ReturnsInHanded {} Try.checked os 9 .any (Rows.mountTurnedSpec.pre6 enc Try.prog Try.f9 Rows.mountTurnedRow.domain false) (Rows.mountTurnedSpec.post enc Try.prog Try.f9 false true false false) := by
  refine returnsInHanded_of_change (C := Try.checked) own started (by kernel_rfl) Try.func9
    (ChangeSpec.witness6 (enc := enc) (C := Try.checked) false ⟨#[], #[.agg #[.int .i64 0, .int .i64 0, .int .i64 0, .int .i64 0, .int .i64 0, .int .i64 0, .int .i64 0, .slice none 0 0, .int .i64 0, .int .i64 0, .int .i64 0, .int .i64 0, .int .i64 0, .int .i64 0, .int .i64 0, .int .i64 0, .int .i64 0], .agg #[.int .i64 0, .int .i64 0, .int .i64 0, .int .i64 0]], []⟩ 8 (by kernel_rfl) (by kernel_rfl) (by kernel_rfl) (by kernel_rfl)) ?_
  intro W base args ds gs before hval hW hcnd _
  exact law_contract (n := 9) (shs := [cdSh, cuSh]) (tb := 4) laidOut (by kernel_rfl) (by kernel_rfl) (by kernel_rfl) (by kernel_rfl) rfl (fun ds hd => by
    match ds, hd with
    | [d0, d1], _ => rfl) (mTurned_walk) hval hW
theorem over : Rows.mountTurnedRow.holds Try.pinned (OpenSpec.ofChange Rows.mountTurnedSpec) :=
  OpenClaim.holds_of_wide 9 Try.f9 rfl rfl rfl rfl rfl rfl rfl ⟨rfl, rfl, rfl, rfl, rfl⟩ rfl rfl rfl rfl rfl (by kernel_rfl) Try.func9 (by kernel_rfl)
    (of_decide_eq_true (by kernel_rfl)) (by unfold Func.isWrapper; first | (rw [if_pos (by decide +kernel)]; kernel_rfl) | (rw [if_neg (by decide +kernel)]; exact ⟨rfl, rfl⟩))
    (fun os started H enc _ => lifted os started H enc)
end mountTurned
theorem mountTurned_holds : Rows.MountTurnedSaid := mountTurned.over
#print axioms mountTurned_holds
end Go.Proofs.Ythoheicppmbepaa
