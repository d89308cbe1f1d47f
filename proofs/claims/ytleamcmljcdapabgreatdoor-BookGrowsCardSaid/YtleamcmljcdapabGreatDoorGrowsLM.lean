/- BookGrows returns true. No condition. -/
import Derived.Test.YtleamcmljcdapabGreatDoorTie
import Derived.Test.YtleamcmljcdapabGreatDoorCards
import Derived.Lay
import Derived.MakeChecks
import Derived.Test.YtleamcmljcdapabGreatDoorU06
set_option linter.unusedSimpArgs false
set_option linter.unusedVariables false
namespace Go.Proofs.YtleamcmljcdapabGreatDoor
open Go Go.Eng Go.Bk
open Go.ChangeShapes Go.WideShapes Go.ChangeAt Go.RowKit

namespace bookGrows
theorem own : ownKnob Tryz.prog.godebug = none := by kernel_rfl
theorem laidOut : laidOutB Tryz.prog = true := by kernel_rfl
set_option maxRecDepth 100000 in
theorem lifted (os : Os) (started : os.Started) (H : Type) (enc : TypeId × Value → H) :
    ReturnsInHanded {} Tryz.checked os 6 .any (fun w args => (Rows.bookGrowsSpec.pre enc Tryz.prog Tryz.f6 Rows.bookGrowsRow.domain false w args ∧ laidMetH Tryz.prog Rows.bookGrowsRow.laid w) ∧ sizedMet enc Tryz.prog Tryz.f6 (OpenSpec.ofChange Rows.bookGrowsSpec) false w args) (Rows.bookGrowsSpec.post enc Tryz.prog Tryz.f6 false true false false) := by
  refine handed_shaped_and (C := Tryz.checked) (X := fun w _ => laidMetH Tryz.prog Rows.bookGrowsRow.laid w) (fun _ _ _ hh h => h.of_heap hh) own started (by kernel_rfl) Tryz.func6
    (ChangeSpec.witness_shaped (enc := enc) (C := Tryz.checked) (os := os) (X := fun w _ => laidMetH Tryz.prog Rows.bookGrowsRow.laid w) false (World.laidAll Tryz.prog os Rows.bookGrowsRow.laid) #[.agg #[.int .i64 0, .slice none 0 0, .int .i64 0, .slice none 0 0], .agg #[.slice none 0 0, .slice none 0 0, .slice none 0 0, .slice none 0 0, .slice none 0 0], .agg #[.slice none 0 0, .int .i64 0, .int .i64 0, .int .i64 0, .int .i64 0], .agg #[.int .i64 0, .int .i64 0, .int .i64 0, .int .i64 0], .agg #[.int .i64 0, .int .i64 0, .int .i64 0, .int .i64 0], .int .u8 0, .int .u8 0] 8 (World.laidAll_os _ _ _)
      (World.shaped_of_ZipB (by kernel_rfl) (by kernel_rfl)) (by kernel_rfl) (by kernel_rfl) (by kernel_rfl)
      (by rw [MakeChecks.laidMetH_plain _ _ _ (by kernel_rfl)]; exact laidMet_laidAll _ (laid_fits os) (laid_ifaces os))) ?_
  intro W base args ds gs before hval hW hsh hX
  exact law_contractW (n := 9) (shs := [cbSh, rySh, psSh, lnSh, lnSh, .int .u8, .int .u8]) (tb := 4) laidOut (by kernel_rfl) (by kernel_rfl) (by kernel_rfl) (by kernel_rfl) rfl (fun ds hd => by
    match ds, hd with
    | [d0, d1, d2, d3, d4, d5, d6], _ => rfl) (fun vs h => bookGrows_walk W vs (lw_of hsh hX) h) hval hW
theorem over : Rows.bookGrowsRow.holds Tryz.pinned (OpenSpec.ofChange Rows.bookGrowsSpec) :=
  OpenClaim.holds_of_wide 6 Tryz.f6 rfl rfl rfl rfl rfl rfl rfl ⟨rfl, rfl, rfl, rfl, rfl⟩ rfl rfl rfl rfl rfl (by kernel_rfl) Tryz.func6 (by kernel_rfl)
    (of_decide_eq_true (by kernel_rfl)) (by unfold Func.isWrapper; first | (rw [if_pos (by decide +kernel)]; kernel_rfl) | (rw [if_neg (by decide +kernel)]; exact ⟨rfl, rfl⟩))
    (fun os started H enc _ => lifted os started H enc)
theorem params : Tryz.f6.params = #[34, 41, 48, 74, 76, 5, 5] := by kernel_rfl
theorem card : Rows.BookGrowsCardSaid :=
  Claim7.holds_tied_plain_at .later [] [.data, .data, .data, .data, .sentinel, .sentinel, .pinned] true (true, "3efdfb6cdb87a522b63e0e8ac9e4f4e0d67411179f0b74c50583ccc2d4ad2a88") true
    over (fun _ h => by cases h) (by kernel_rfl) (fun _ h => by cases h) bookGrows_row_tie rfl ⟨rfl, rfl⟩ (by kernel_rfl) rfl
    (fun f fn hf hfn => by
      obtain rfl : f = 6 := Option.some.inj ((show Tryz.prog.funcNamed "pairworks/pairworkslaw14.BookGrows" = some 6 by kernel_rfl).symm.trans hf) |>.symm
      obtain rfl : fn = Tryz.f6 := (Option.some.inj (Tryz.func6.symm.trans hfn)).symm
      exact ⟨by kernel_rfl, fun j t ht => by
        rw [params] at ht
        have hm : t ∈ [34, 41, 48, 74, 76, 5, 5] := by simpa using Array.mem_of_getElem? ht
        have hall : ([34, 41, 48, 74, 76, 5, 5].all fun u => !Tryz.prog.wantsStandIn u) = true := by kernel_rfl
        exact (show Tryz.prog.wantsStandIn t = false by simpa using List.all_eq_true.1 hall t hm)⟩)
    (by kernel_rfl)
end bookGrows
theorem bookGrows_holds : Rows.BookGrowsCardSaid := bookGrows.card
#print axioms bookGrows_holds
end Go.Proofs.YtleamcmljcdapabGreatDoor
