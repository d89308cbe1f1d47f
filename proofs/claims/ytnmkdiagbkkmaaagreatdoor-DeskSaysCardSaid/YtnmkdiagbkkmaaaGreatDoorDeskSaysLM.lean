/- DeskSays returns true. No condition. -/
import Derived.Test.YtnmkdiagbkkmaaaGreatDoorTie
import Derived.Test.YtnmkdiagbkkmaaaGreatDoorCards
import Derived.Lay
import Derived.MakeChecks
import Derived.Test.YtnmkdiagbkkmaaaGreatDoorS06
set_option linter.unusedSimpArgs false
set_option linter.unusedVariables false
namespace Go.Proofs.YtnmkdiagbkkmaaaGreatDoor
open Go Go.Eng Go.Dk Go.Pw1
open Go.ChangeShapes Go.WideShapes Go.ChangeAt Go.RowKit

namespace deskSays
theorem own : ownKnob Tryz.prog.godebug = none := by kernel_rfl
theorem laidOut : laidOutB Tryz.prog = true := by kernel_rfl
set_option maxRecDepth 100000 in
theorem lifted (os : Os) (started : os.Started) (H : Type) (enc : TypeId × Value → H) :
    ReturnsInHanded {} Tryz.checked os 7 .any (fun w args => (Rows.deskSaysSpec.pre enc Tryz.prog Tryz.f7 Rows.deskSaysRow.domain false w args ∧ laidMetH Tryz.prog Rows.deskSaysRow.laid w) ∧ sizedMet enc Tryz.prog Tryz.f7 (OpenSpec.ofChange Rows.deskSaysSpec) false w args) (Rows.deskSaysSpec.post enc Tryz.prog Tryz.f7 false true false false) := by
  refine AR3 (C := Tryz.checked) (X := fun w _ => laidMetH Tryz.prog Rows.deskSaysRow.laid w) (fun _ _ _ hh h => h.of_heap hh) own started (by kernel_rfl) Tryz.func7
    (ChangeSpec.witness_shaped (enc := enc) (C := Tryz.checked) (os := os) (X := fun w _ => laidMetH Tryz.prog Rows.deskSaysRow.laid w) false (World.laidAll Tryz.prog os Rows.deskSaysRow.laid) #[.agg #[.int .i64 0, .int .i64 0, .int .i64 0, .int .i64 0, .int .i64 0, .int .i64 0, .int .i64 0, .slice none 0 0, .int .i64 0, .int .i64 0, .int .i64 0, .int .i64 0, .int .i64 0, .int .i64 0, .int .i64 0, .int .i64 0, .int .i64 0], .slice none 0 0] 8 (World.laidAll_os _ _ _)
      (World.shaped_of_ZipB (by kernel_rfl) (by kernel_rfl)) (by kernel_rfl) (by kernel_rfl) (by kernel_rfl)
      (by rw [MakeChecks.laidMetH_plain _ _ _ (by kernel_rfl)]; exact laidMet_laidAll _ (Co9 os) (BH9 os))) ?_
  intro W base args ds gs before hval hW hsh hX
  exact Bq0 (n := 9) (shs := [cdSh, .sl .str]) (tb := 4) laidOut (by kernel_rfl) (by kernel_rfl) (by kernel_rfl) (by kernel_rfl) rfl (fun ds hd => by
    match ds, hd with
    | [d0, d1], _ => rfl) (fun vs h => Bs0 W vs (Dr0 hsh hX) h) hval hW
theorem fInPlace : Tryz.prog.inPlace 7 = Rows.deskSaysRow.inPlace := by kernel_rfl
theorem fUnfollowed : Tryz.prog.unfollowed 7 = Rows.deskSaysRow.unfollowed := by kernel_rfl
theorem fRecurses : Tryz.prog.recurses 7 = Rows.deskSaysRow.recurses := by kernel_rfl
theorem fNamed : Tryz.prog.varsNamed 7 = Rows.deskSaysRow.named := by kernel_rfl
theorem closed : joinedFacts Tryz.prog 7 Tryz.f7 Rows.deskSaysSpec Rows.deskSaysRow = true := by
  unfold joinedFacts
  rw [fInPlace, fUnfollowed, fRecurses, fNamed]
  kernel_rfl
theorem over : Rows.deskSaysRow.holds Tryz.pinned (OpenSpec.ofChange Rows.deskSaysSpec) :=
  OpenClaim.holds_of_wide 7 Tryz.f7 rfl rfl rfl rfl rfl rfl rfl ⟨rfl, rfl, rfl, rfl, rfl⟩ rfl rfl rfl rfl rfl (by kernel_rfl) Tryz.func7 closed
    (of_decide_eq_true (by kernel_rfl)) (by unfold Func.isWrapper; first | (rw [if_pos (by decide +kernel)]; kernel_rfl) | (rw [if_neg (by decide +kernel)]; exact ⟨rfl, rfl⟩))
    (fun os started H enc _ => lifted os started H enc)
theorem params : Tryz.f7.params = #[28, 36] := by kernel_rfl
theorem card : Rows.DeskSaysCardSaid :=
  Claim7.holds_tied_plain_at .later [] [.data, .data, .data, .data, .sentinel, .sentinel, .pinned] true (true, "0c1c23679fa8964f42d791414f64334e699af7c782f5bc973d5a4775a7bd7dad") true
    over (fun _ h => by cases h) (by kernel_rfl) (fun _ h => by cases h) deskSays_row_tie rfl ⟨rfl, rfl⟩ (by kernel_rfl) rfl
    (fun f fn hf hfn => by
      obtain rfl : f = 7 := Option.some.inj ((show Tryz.prog.funcNamed "pairworks/pairworkslaw15.DeskSays" = some 7 by kernel_rfl).symm.trans hf) |>.symm
      obtain rfl : fn = Tryz.f7 := (Option.some.inj (Tryz.func7.symm.trans hfn)).symm
      exact ⟨by kernel_rfl, fun j t ht => by
        rw [params] at ht
        have hm : t ∈ [28, 36] := by simpa using Array.mem_of_getElem? ht
        have AV0 : ([28, 36].all fun u => !Tryz.prog.wantsStandIn u) = true := by kernel_rfl
        exact (show Tryz.prog.wantsStandIn t = false by simpa using List.all_eq_true.1 AV0 t hm)⟩)
    (by kernel_rfl)
end deskSays
theorem deskSays_holds : Rows.DeskSaysCardSaid := deskSays.card
#print axioms deskSays_holds
end Go.Proofs.YtnmkdiagbkkmaaaGreatDoor
