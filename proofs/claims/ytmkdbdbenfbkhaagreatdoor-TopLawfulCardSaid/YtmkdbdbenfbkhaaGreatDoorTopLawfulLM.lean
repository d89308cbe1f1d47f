/- TopLawful returns true. No condition. -/
import Derived.Test.YtmkdbdbenfbkhaaGreatDoorTie
import Derived.Test.YtmkdbdbenfbkhaaGreatDoorCards
import Derived.Lay
import Derived.MakeChecks
import Derived.Test.YtmkdbdbenfbkhaaGreatDoorY06
set_option linter.unusedSimpArgs false
set_option linter.unusedVariables false
namespace Go.Proofs.YtmkdbdbenfbkhaaGreatDoor
open Go Go.Eng Go.Bk
open Go.ChangeShapes Go.WideShapes Go.ChangeAt Go.RowKit

namespace topLawful
theorem own : ownKnob Tryz.prog.godebug = none := by kernel_rfl
theorem laidOut : laidOutB Tryz.prog = true := by kernel_rfl
set_option maxRecDepth 100000 in
theorem lifted (os : Os) (started : os.Started) (H : Type) (enc : TypeId × Value → H) :
    ReturnsInHanded {} Tryz.checked os 3 .any (fun w args => (Rows.topLawfulSpec.pre enc Tryz.prog Tryz.f3 Rows.topLawfulRow.domain false w args ∧ laidMetH Tryz.prog Rows.topLawfulRow.laid w) ∧ sizedMet enc Tryz.prog Tryz.f3 (OpenSpec.ofChange Rows.topLawfulSpec) false w args) (Rows.topLawfulSpec.post enc Tryz.prog Tryz.f3 false true false false) := by
  refine AG4 (C := Tryz.checked) (X := fun w _ => laidMetH Tryz.prog Rows.topLawfulRow.laid w) (fun _ _ _ hh h => h.of_heap hh) own started (by kernel_rfl) Tryz.func3
    (ChangeSpec.witness_shaped (enc := enc) (C := Tryz.checked) (os := os) (X := fun w _ => laidMetH Tryz.prog Rows.topLawfulRow.laid w) false (World.laidAll Tryz.prog os Rows.topLawfulRow.laid) #[.agg #[.int .i64 0, .slice none 0 0, .slice none 0 0, .slice none 0 0, .slice none 0 0], .agg #[.int .i64 0, .slice none 0 0, .int .i64 0, .slice none 0 0], .agg #[.slice none 0 0, .slice none 0 0, .slice none 0 0, .slice none 0 0, .slice none 0 0], .agg #[.slice none 0 0, .int .i64 0, .int .i64 0, .int .i64 0, .int .i64 0]] 8 (World.laidAll_os _ _ _)
      (World.shaped_of_ZipB (by kernel_rfl) (by kernel_rfl)) (by kernel_rfl) (by kernel_rfl) (by kernel_rfl)
      (by rw [MakeChecks.laidMetH_plain _ _ _ (by kernel_rfl)]; exact laidMet_laidAll _ (BW3 os) (Bx2 os))) ?_
  intro W base args ds gs before hval hW hsh hX
  exact Bd1 (n := 9) (shs := [trSh, cbSh, rySh, psSh]) (tb := 4) laidOut (by kernel_rfl) (by kernel_rfl) (by kernel_rfl) (by kernel_rfl) rfl (fun ds hd => by
    match ds, hd with
    | [d0, d1, d2, d3], _ => rfl) (fun vs h => AT5 W vs (CR9 hsh hX) h) hval hW
theorem fInPlace : Tryz.prog.inPlace 3 = Rows.topLawfulRow.inPlace := by kernel_rfl
theorem fUnfollowed : Tryz.prog.unfollowed 3 = Rows.topLawfulRow.unfollowed := by kernel_rfl
theorem fRecurses : Tryz.prog.recurses 3 = Rows.topLawfulRow.recurses := by kernel_rfl
theorem fNamed : Tryz.prog.varsNamed 3 = Rows.topLawfulRow.named := by kernel_rfl
theorem closed : joinedFacts Tryz.prog 3 Tryz.f3 Rows.topLawfulSpec Rows.topLawfulRow = true := by
  unfold joinedFacts
  rw [fInPlace, fUnfollowed, fRecurses, fNamed]
  kernel_rfl
theorem over : Rows.topLawfulRow.holds Tryz.pinned (OpenSpec.ofChange Rows.topLawfulSpec) :=
  OpenClaim.holds_of_wide 3 Tryz.f3 rfl rfl rfl rfl rfl rfl rfl ⟨rfl, rfl, rfl, rfl, rfl⟩ rfl rfl rfl rfl rfl (by kernel_rfl) Tryz.func3 closed
    (of_decide_eq_true (by kernel_rfl)) (by unfold Func.isWrapper; first | (rw [if_pos (by decide +kernel)]; kernel_rfl) | (rw [if_neg (by decide +kernel)]; exact ⟨rfl, rfl⟩))
    (fun os started H enc _ => lifted os started H enc)
theorem params : Tryz.f3.params = #[25, 29, 34, 39] := by kernel_rfl
theorem card : Rows.TopLawfulCardSaid :=
  Claim7.holds_tied_plain_at .later [] [.data, .data, .data, .data, .sentinel, .sentinel, .pinned] true (true, "132c57a4c6f845d11ab00c9501076e6c77f8adfa57c0f4c7d51f4dfc9c62e745") true
    over (fun _ h => by cases h) (by kernel_rfl) (fun _ h => by cases h) topLawful_row_tie rfl ⟨rfl, rfl⟩ (by kernel_rfl) rfl
    (fun f fn hf hfn => by
      obtain rfl : f = 3 := Option.some.inj ((show Tryz.prog.funcNamed "pairworks/pairworkstop.TopLawful" = some 3 by kernel_rfl).symm.trans hf) |>.symm
      obtain rfl : fn = Tryz.f3 := (Option.some.inj (Tryz.func3.symm.trans hfn)).symm
      exact ⟨by kernel_rfl, fun j t ht => by
        rw [params] at ht
        have hm : t ∈ [25, 29, 34, 39] := by simpa using Array.mem_of_getElem? ht
        have hall : ([25, 29, 34, 39].all fun u => !Tryz.prog.wantsStandIn u) = true := by kernel_rfl
        exact (show Tryz.prog.wantsStandIn t = false by simpa using List.all_eq_true.1 hall t hm)⟩)
    (by kernel_rfl)
end topLawful
theorem topLawful_holds : Rows.TopLawfulCardSaid := topLawful.card
#print axioms topLawful_holds
end Go.Proofs.YtmkdbdbenfbkhaaGreatDoor
