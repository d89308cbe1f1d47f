/- YearsNames returns true. No condition. -/
import Derived.Test.YtjijeeadmhpfcaaRows
import Derived.Test.YtjijeeadmhpfcaaYn
set_option linter.unusedSimpArgs false
set_option linter.unusedVariables false
namespace Go.Proofs.Ytjijeeadmhpfcaa
open Go Go.Eng Go.Pw1
open Go.ChangeShapes Go.WideShapes Go.ChangeAt Go.RowKit

theorem yNames_walk (W : World) (vs : List Value) (h : RdAll W [] vs) : Calls Try.prog 4 vs.toArray W (Pure (.bool true) W) := by
  cases h
  exact names_calls W
namespace yearsNames
theorem own : ownKnob Try.prog.godebug = none := by kernel_rfl
theorem laidOut : laidOutB Try.prog = true := by kernel_rfl
set_option maxRecDepth 100000 in
theorem lifted (os : Os) (started : os.Started) (H : Type) (enc : TypeId × Value → H) :
    ReturnsInHanded {} Try.checked os 4 .any (Rows.yearsNamesSpec.pre6 enc Try.prog Try.f4 Rows.yearsNamesRow.domain false) (Rows.yearsNamesSpec.post enc Try.prog Try.f4 false true false false) := by
  refine returnsInHanded_of_change (C := Try.checked) own started (by kernel_rfl) Try.func4
    (ChangeSpec.witness6 (enc := enc) (C := Try.checked) false ⟨#[], #[], []⟩ 8 (by kernel_rfl) (by kernel_rfl) (by kernel_rfl) (by kernel_rfl)) ?_
  intro W base args ds gs before hval hW hcnd _
  exact law_contract (n := 9) (shs := []) (tb := 4) laidOut (by kernel_rfl) (by kernel_rfl) (by kernel_rfl) (by kernel_rfl) rfl (fun ds hd => by
    match ds, hd with
    | [], _ => rfl) (yNames_walk) hval hW
theorem over : Rows.yearsNamesRow.holds Try.pinned (OpenSpec.ofChange Rows.yearsNamesSpec) :=
  OpenClaim.holds_of_wide 4 Try.f4 rfl rfl rfl rfl rfl rfl rfl ⟨rfl, rfl, rfl, rfl, rfl⟩ rfl rfl rfl rfl rfl (by kernel_rfl) Try.func4 (by kernel_rfl)
    (of_decide_eq_true (by kernel_rfl)) (by unfold Func.isWrapper; first | (rw [if_pos (by decide +kernel)]; kernel_rfl) | (rw [if_neg (by decide +kernel)]; exact ⟨rfl, rfl⟩))
    (fun os started H enc _ => lifted os started H enc)
end yearsNames
theorem yearsNames_holds : Rows.YearsNamesSaid := yearsNames.over
#print axioms yearsNames_holds
end Go.Proofs.Ytjijeeadmhpfcaa
