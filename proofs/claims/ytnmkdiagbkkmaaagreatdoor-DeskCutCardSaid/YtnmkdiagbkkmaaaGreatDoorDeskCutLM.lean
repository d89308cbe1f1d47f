/- DeskCut returns true. No condition. -/
import Derived.Test.YtnmkdiagbkkmaaaGreatDoorTie
import Derived.Test.YtnmkdiagbkkmaaaGreatDoorCards
import Derived.Lay
import Derived.MakeChecks
import Derived.Test.YtnmkdiagbkkmaaaGreatDoorC06
set_option linter.unusedSimpArgs false
set_option linter.unusedVariables false
namespace Go.Proofs.YtnmkdiagbkkmaaaGreatDoor
open Go Go.Eng Go.Dk Go.Pw1
open Go.ChangeShapes Go.WideShapes Go.ChangeAt Go.RowKit

namespace deskCut
theorem own : ownKnob Tryz.prog.godebug = none := by kernel_rfl
theorem laidOut : laidOutB Tryz.prog = true := by kernel_rfl
set_option maxRecDepth 100000 in
theorem lifted (os : Os) (started : os.Started) (H : Type) (enc : TypeId × Value → H) :
    ReturnsInHanded {} Tryz.checked os 6 .any (fun w args => (Rows.deskCutSpec.pre enc Tryz.prog Tryz.f6 Rows.deskCutRow.domain false w args ∧ laidMetH Tryz.prog Rows.deskCutRow.laid w) ∧ sizedMet enc Tryz.prog Tryz.f6 (OpenSpec.ofChange Rows.deskCutSpec) false w args) (Rows.deskCutSpec.post enc Tryz.prog Tryz.f6 false true false false) := by
  refine AQ9 (C := Tryz.checked) (X := fun w _ => laidMetH Tryz.prog Rows.deskCutRow.laid w) (fun _ _ _ hh h => h.of_heap hh) own started (by kernel_rfl) Tryz.func6
    (ChangeSpec.witness_shaped (enc := enc) (C := Tryz.checked) (os := os) (X := fun w _ => laidMetH Tryz.prog Rows.deskCutRow.laid w) false (World.laidAll Tryz.prog os Rows.deskCutRow.laid) #[.agg #[.int .i64 0, .int .i64 0, .int .i64 0, .int .i64 0, .int .i64 0, .int .i64 0, .int .i64 0, .slice none 0 0, .int .i64 0, .int .i64 0, .int .i64 0, .int .i64 0, .int .i64 0, .int .i64 0, .int .i64 0, .int .i64 0, .int .i64 0], .slice none 0 0] 8 (World.laidAll_os _ _ _)
      (World.shaped_of_ZipB (by kernel_rfl) (by kernel_rfl)) (by kernel_rfl) (by kernel_rfl) (by kernel_rfl)
      (by rw [MakeChecks.laidMetH_plain _ _ _ (by kernel_rfl)]; exact laidMet_laidAll _ (Co5 os) (BI2 os))) ?_
  intro W base args ds gs before hval hW hsh hX
  exact Bo8 (n := 9) (shs := [cdSh, .sl .str]) (tb := 4) laidOut (by kernel_rfl) (by kernel_rfl) (by kernel_rfl) (by kernel_rfl) rfl (fun ds hd => by
    match ds, hd with
    | [d0, d1], _ => rfl) (fun vs h => BB3 W vs (Dp9 hsh hX) h) hval hW
theorem fInPlace : Tryz.prog.inPlace 6 = Rows.deskCutRow.inPlace := by kernel_rfl
theorem fUnfollowed : Tryz.prog.unfollowed 6 = Rows.deskCutRow.unfollowed := by kernel_rfl
theorem fRecurses : Tryz.prog.recurses 6 = Rows.deskCutRow.recurses := by kernel_rfl
theorem fNamed : Tryz.prog.varsNamed 6 = Rows.deskCutRow.named := by kernel_rfl
theorem closed : joinedFacts Tryz.prog 6 Tryz.f6 Rows.deskCutSpec Rows.deskCutRow = true := by
  unfold joinedFacts
  rw [fInPlace, fUnfollowed, fRecurses, fNamed]
  kernel_rfl
theorem over : Rows.deskCutRow.holds Tryz.pinned (OpenSpec.ofChange Rows.deskCutSpec) :=
  OpenClaim.holds_of_wide 6 Tryz.f6 rfl rfl rfl rfl rfl rfl rfl ⟨rfl, rfl, rfl, rfl, rfl⟩ rfl rfl rfl rfl rfl (by kernel_rfl) Tryz.func6 closed
    (of_decide_eq_true (by kernel_rfl)) (by unfold Func.isWrapper; first | (rw [if_pos (by decide +kernel)]; kernel_rfl) | (rw [if_neg (by decide +kernel)]; exact ⟨rfl, rfl⟩))
    (fun os started H enc _ => lifted os started H enc)
theorem params : Tryz.f6.params = #[28, 36] := by kernel_rfl
theorem card : Rows.DeskCutCardSaid :=
  Claim7.holds_tied_plain_at .later [] [.data, .data, .data, .data, .sentinel, .sentinel, .pinned] true (true, "0c1c23679fa8964f42d791414f64334e699af7c782f5bc973d5a4775a7bd7dad") true
    over (fun _ h => by cases h) (by kernel_rfl) (fun _ h => by cases h) deskCut_row_tie rfl ⟨rfl, rfl⟩ (by kernel_rfl) rfl
    (fun f fn hf hfn => by
      obtain rfl : f = 6 := Option.some.inj ((show Tryz.prog.funcNamed "pairworks/pairworkslaw15.DeskCut" = some 6 by kernel_rfl).symm.trans hf) |>.symm
      obtain rfl : fn = Tryz.f6 := (Option.some.inj (Tryz.func6.symm.trans hfn)).symm
      exact ⟨by kernel_rfl, fun j t ht => by
        rw [params] at ht
        have hm : t ∈ [28, 36] := by simpa using Array.mem_of_getElem? ht
        have AU7 : ([28, 36].all fun u => !Tryz.prog.wantsStandIn u) = true := by kernel_rfl
        exact (show Tryz.prog.wantsStandIn t = false by simpa using List.all_eq_true.1 AU7 t hm)⟩)
    (by kernel_rfl)
end deskCut
theorem deskCut_holds : Rows.DeskCutCardSaid := deskCut.card
#print axioms deskCut_holds
end Go.Proofs.YtnmkdiagbkkmaaaGreatDoor
