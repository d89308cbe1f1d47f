/- BookTexts returns true. No condition. -/
import Derived.Test.YtleamcmljcdapaaGreatDoorTie
import Derived.Test.YtleamcmljcdapaaGreatDoorCards
import Derived.Lay
import Derived.MakeChecks
import Derived.Test.YtleamcmljcdapaaGreatDoorT06
set_option linter.unusedSimpArgs false
set_option linter.unusedVariables false
namespace Go.Proofs.YtleamcmljcdapaaGreatDoor
open Go Go.Eng Go.Bk
open Go.ChangeShapes Go.WideShapes Go.ChangeAt Go.RowKit

namespace bookTexts
theorem own : ownKnob Tryz.prog.godebug = none := by kernel_rfl
theorem laidOut : laidOutB Tryz.prog = true := by kernel_rfl
set_option maxRecDepth 100000 in
theorem lifted (os : Os) (started : os.Started) (H : Type) (enc : TypeId × Value → H) :
    ReturnsInHanded {} Tryz.checked os 4 .any (fun w args => (Rows.bookTextsSpec.pre enc Tryz.prog Tryz.f4 Rows.bookTextsRow.domain false w args ∧ laidMetH Tryz.prog Rows.bookTextsRow.laid w) ∧ sizedMet enc Tryz.prog Tryz.f4 (OpenSpec.ofChange Rows.bookTextsSpec) false w args) (Rows.bookTextsSpec.post enc Tryz.prog Tryz.f4 false true false false) := by
  refine handed_shaped_and (C := Tryz.checked) (X := fun w _ => laidMetH Tryz.prog Rows.bookTextsRow.laid w) (fun _ _ _ hh h => h.of_heap hh) own started (by kernel_rfl) Tryz.func4
    (ChangeSpec.witness_shaped (enc := enc) (C := Tryz.checked) (os := os) (X := fun w _ => laidMetH Tryz.prog Rows.bookTextsRow.laid w) false (World.laidAll Tryz.prog os Rows.bookTextsRow.laid) #[.agg #[.int .i64 0, .slice none 0 0, .int .i64 0, .slice none 0 0], .agg #[.slice none 0 0, .slice none 0 0, .slice none 0 0, .slice none 0 0, .slice none 0 0], .string ⟨#[]⟩] 8 (World.laidAll_os _ _ _)
      (World.shaped_of_ZipB (by kernel_rfl) (by kernel_rfl)) (by kernel_rfl) (by kernel_rfl) (by kernel_rfl)
      (by rw [MakeChecks.laidMetH_plain _ _ _ (by kernel_rfl)]; exact laidMet_laidAll _ (laid_fits os) (laid_ifaces os))) ?_
  intro W base args ds gs before hval hW hsh hX
  exact law_contractW (n := 9) (shs := [cbSh, rySh, .str]) (tb := 4) laidOut (by kernel_rfl) (by kernel_rfl) (by kernel_rfl) (by kernel_rfl) rfl (fun ds hd => by
    match ds, hd with
    | [d0, d1, d2], _ => rfl) (fun vs h => bookTexts_walk W vs (lw_of hsh hX) h) hval hW
theorem over : Rows.bookTextsRow.holds Tryz.pinned (OpenSpec.ofChange Rows.bookTextsSpec) :=
  OpenClaim.holds_of_wide 4 Tryz.f4 rfl rfl rfl rfl rfl rfl rfl ⟨rfl, rfl, rfl, rfl, rfl⟩ rfl rfl rfl rfl rfl (by kernel_rfl) Tryz.func4 (by kernel_rfl)
    (of_decide_eq_true (by kernel_rfl)) (by unfold Func.isWrapper; first | (rw [if_pos (by decide +kernel)]; kernel_rfl) | (rw [if_neg (by decide +kernel)]; exact ⟨rfl, rfl⟩))
    (fun os started H enc _ => lifted os started H enc)
theorem params : Tryz.f4.params = #[30, 35, 9] := by kernel_rfl
theorem card : Rows.BookTextsCardSaid :=
  Claim7.holds_tied_plain_at .later [] [.data, .data, .data, .data, .sentinel, .sentinel, .pinned] true (true, "51e6dfc56e46f5c1319b7c3c208fe935c8139e70df585bf6016d32e4e09745b6") true
    over (fun _ h => by cases h) (by kernel_rfl) (fun _ h => by cases h) bookTexts_row_tie rfl ⟨rfl, rfl⟩ (by kernel_rfl) rfl
    (fun f fn hf hfn => by
      obtain rfl : f = 4 := Option.some.inj ((show Tryz.prog.funcNamed "pairworks/pairworkslaw14.BookTexts" = some 4 by kernel_rfl).symm.trans hf) |>.symm
      obtain rfl : fn = Tryz.f4 := (Option.some.inj (Tryz.func4.symm.trans hfn)).symm
      exact ⟨by kernel_rfl, fun j t ht => by
        rw [params] at ht
        have hm : t ∈ [30, 35, 9] := by simpa using Array.mem_of_getElem? ht
        have hall : ([30, 35, 9].all fun u => !Tryz.prog.wantsStandIn u) = true := by kernel_rfl
        exact (show Tryz.prog.wantsStandIn t = false by simpa using List.all_eq_true.1 hall t hm)⟩)
    (by kernel_rfl)
end bookTexts
theorem bookTexts_holds : Rows.BookTextsCardSaid := bookTexts.card
#print axioms bookTexts_holds
end Go.Proofs.YtleamcmljcdapaaGreatDoor
