/- DeskNone returns true. No condition. -/
import Derived.Test.YtnmkdiagbkkmaabGreatDoorTie
import Derived.Test.YtnmkdiagbkkmaabGreatDoorCards
import Derived.Lay
import Derived.MakeChecks
import Derived.Test.YtnmkdiagbkkmaabGreatDoorN06
set_option linter.unusedSimpArgs false
set_option linter.unusedVariables false
namespace Go.Proofs.YtnmkdiagbkkmaabGreatDoor
open Go Go.Eng Go.Dk Go.Pw1
open Go.ChangeShapes Go.WideShapes Go.ChangeAt Go.RowKit

namespace deskNone
theorem own : ownKnob Tryz.prog.godebug = none := by kernel_rfl
theorem laidOut : laidOutB Tryz.prog = true := by kernel_rfl
set_option maxRecDepth 100000 in
theorem lifted (os : Os) (started : os.Started) (H : Type) (enc : TypeId × Value → H) :
    ReturnsInHanded {} Tryz.checked os 6 .any (fun w args => (Rows.deskNoneSpec.pre enc Tryz.prog Tryz.f6 Rows.deskNoneRow.domain false w args ∧ laidMetH Tryz.prog Rows.deskNoneRow.laid w) ∧ sizedMet enc Tryz.prog Tryz.f6 (OpenSpec.ofChange Rows.deskNoneSpec) false w args) (Rows.deskNoneSpec.post enc Tryz.prog Tryz.f6 false true false false) := by
  refine AP8 (C := Tryz.checked) (X := fun w _ => laidMetH Tryz.prog Rows.deskNoneRow.laid w) (fun _ _ _ hh h => h.of_heap hh) own started (by kernel_rfl) Tryz.func6
    (ChangeSpec.witness_shaped (enc := enc) (C := Tryz.checked) (os := os) (X := fun w _ => laidMetH Tryz.prog Rows.deskNoneRow.laid w) false (World.laidAll Tryz.prog os Rows.deskNoneRow.laid) #[.agg #[.int .i64 0, .int .i64 0, .int .i64 0, .int .i64 0, .int .i64 0, .int .i64 0, .int .i64 0, .slice none 0 0, .int .i64 0, .int .i64 0, .int .i64 0, .int .i64 0, .int .i64 0, .int .i64 0, .int .i64 0, .int .i64 0, .int .i64 0], .string ⟨#[]⟩] 8 (World.laidAll_os _ _ _)
      (World.shaped_of_ZipB (by kernel_rfl) (by kernel_rfl)) (by kernel_rfl) (by kernel_rfl) (by kernel_rfl)
      (by rw [MakeChecks.laidMetH_plain _ _ _ (by kernel_rfl)]; exact laidMet_laidAll _ (Cm3 os) (BG5 os))) ?_
  intro W base args ds gs before hval hW hsh hX
  exact Bn7 (n := 9) (shs := [cdSh, .str]) (tb := 4) laidOut (by kernel_rfl) (by kernel_rfl) (by kernel_rfl) (by kernel_rfl) rfl (fun ds hd => by
    match ds, hd with
    | [d0, d1], _ => rfl) (fun vs h => Bq0 W vs (Dm4 hsh hX) h) hval hW
theorem fInPlace : Tryz.prog.inPlace 6 = Rows.deskNoneRow.inPlace := by kernel_rfl
theorem fUnfollowed : Tryz.prog.unfollowed 6 = Rows.deskNoneRow.unfollowed := by kernel_rfl
theorem fRecurses : Tryz.prog.recurses 6 = Rows.deskNoneRow.recurses := by kernel_rfl
theorem fNamed : Tryz.prog.varsNamed 6 = Rows.deskNoneRow.named := by kernel_rfl
theorem closed : joinedFacts Tryz.prog 6 Tryz.f6 Rows.deskNoneSpec Rows.deskNoneRow = true := by
  unfold joinedFacts
  rw [fInPlace, fUnfollowed, fRecurses, fNamed]
  kernel_rfl
theorem over : Rows.deskNoneRow.holds Tryz.pinned (OpenSpec.ofChange Rows.deskNoneSpec) :=
  OpenClaim.holds_of_wide 6 Tryz.f6 rfl rfl rfl rfl rfl rfl rfl ⟨rfl, rfl, rfl, rfl, rfl⟩ rfl rfl rfl rfl rfl (by kernel_rfl) Tryz.func6 closed
    (of_decide_eq_true (by kernel_rfl)) (by unfold Func.isWrapper; first | (rw [if_pos (by decide +kernel)]; kernel_rfl) | (rw [if_neg (by decide +kernel)]; exact ⟨rfl, rfl⟩))
    (fun os started H enc _ => lifted os started H enc)
theorem params : Tryz.f6.params = #[28, 9] := by kernel_rfl
theorem card : Rows.DeskNoneCardSaid :=
  Claim7.holds_tied_plain_at .later [] [.data, .data, .data, .data, .sentinel, .sentinel, .pinned] true (true, "8731942ddfd3ab36be052e935b071bfa1697f869db36dce0aa327f73a09eedcf") true
    over (fun _ h => by cases h) (by kernel_rfl) (fun _ h => by cases h) deskNone_row_tie rfl ⟨rfl, rfl⟩ (by kernel_rfl) rfl
    (fun f fn hf hfn => by
      obtain rfl : f = 6 := Option.some.inj ((show Tryz.prog.funcNamed "pairworks/pairworkslaw15.DeskNone" = some 6 by kernel_rfl).symm.trans hf) |>.symm
      obtain rfl : fn = Tryz.f6 := (Option.some.inj (Tryz.func6.symm.trans hfn)).symm
      exact ⟨by kernel_rfl, fun j t ht => by
        rw [params] at ht
        have hm : t ∈ [28, 9] := by simpa using Array.mem_of_getElem? ht
        have AT4 : ([28, 9].all fun u => !Tryz.prog.wantsStandIn u) = true := by kernel_rfl
        exact (show Tryz.prog.wantsStandIn t = false by simpa using List.all_eq_true.1 AT4 t hm)⟩)
    (by kernel_rfl)
end deskNone
theorem deskNone_holds : Rows.DeskNoneCardSaid := deskNone.card
#print axioms deskNone_holds
end Go.Proofs.YtnmkdiagbkkmaabGreatDoor
