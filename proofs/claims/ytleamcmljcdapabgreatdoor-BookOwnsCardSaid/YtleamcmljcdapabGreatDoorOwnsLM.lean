/- BookOwns returns true. No condition. -/
import Derived.Test.YtleamcmljcdapabGreatDoorTie
import Derived.Test.YtleamcmljcdapabGreatDoorCards
import Derived.Lay
import Derived.MakeChecks
import Derived.Test.YtleamcmljcdapabGreatDoorR05
set_option linter.unusedSimpArgs false
set_option linter.unusedVariables false
namespace Go.Proofs.YtleamcmljcdapabGreatDoor
open Go Go.Eng Go.Bk
open Go.ChangeShapes Go.WideShapes Go.ChangeAt Go.RowKit

namespace bookOwns
theorem own : ownKnob Tryz.prog.godebug = none := by kernel_rfl
theorem laidOut : laidOutB Tryz.prog = true := by kernel_rfl
set_option maxRecDepth 100000 in
theorem lifted (os : Os) (started : os.Started) (H : Type) (enc : TypeId × Value → H) :
    ReturnsInHanded {} Tryz.checked os 5 .any (fun w args => (Rows.bookOwnsSpec.pre enc Tryz.prog Tryz.f5 Rows.bookOwnsRow.domain false w args ∧ laidMetH Tryz.prog Rows.bookOwnsRow.laid w) ∧ sizedMet enc Tryz.prog Tryz.f5 (OpenSpec.ofChange Rows.bookOwnsSpec) false w args) (Rows.bookOwnsSpec.post enc Tryz.prog Tryz.f5 false true false false) := by
  refine handed_shaped_and (C := Tryz.checked) (X := fun w _ => laidMetH Tryz.prog Rows.bookOwnsRow.laid w) (fun _ _ _ hh h => h.of_heap hh) own started (by kernel_rfl) Tryz.func5
    (ChangeSpec.witness_shaped (enc := enc) (C := Tryz.checked) (os := os) (X := fun w _ => laidMetH Tryz.prog Rows.bookOwnsRow.laid w) false (World.laidAll Tryz.prog os Rows.bookOwnsRow.laid) #[.agg #[.int .i64 0, .slice none 0 0, .slice none 0 0, .slice none 0 0, .slice none 0 0], .agg #[.slice none 0 0, .int .i64 0, .int .i64 0, .int .i64 0, .int .i64 0], .slice none 0 0, .string ⟨#[]⟩] 8 (World.laidAll_os _ _ _)
      (World.shaped_of_ZipB (by kernel_rfl) (by kernel_rfl)) (by kernel_rfl) (by kernel_rfl) (by kernel_rfl)
      (by rw [MakeChecks.laidMetH_plain _ _ _ (by kernel_rfl)]; exact laidMet_laidAll _ (laid_fits os) (laid_ifaces os))) ?_
  intro W base args ds gs before hval hW hsh hX
  exact law_contractW (n := 9) (shs := [trSh, psSh, .sl (.int .u8), .str]) (tb := 4) laidOut (by kernel_rfl) (by kernel_rfl) (by kernel_rfl) (by kernel_rfl) rfl (fun ds hd => by
    match ds, hd with
    | [d0, d1, d2, d3], _ => rfl) (fun vs h => bookOwns_walk W vs (lw_of hsh hX) h) hval hW
theorem over : Rows.bookOwnsRow.holds Tryz.pinned (OpenSpec.ofChange Rows.bookOwnsSpec) :=
  OpenClaim.holds_of_wide 5 Tryz.f5 rfl rfl rfl rfl rfl rfl rfl ⟨rfl, rfl, rfl, rfl, rfl⟩ rfl rfl rfl rfl rfl (by kernel_rfl) Tryz.func5 (by kernel_rfl)
    (of_decide_eq_true (by kernel_rfl)) (by unfold Func.isWrapper; first | (rw [if_pos (by decide +kernel)]; kernel_rfl) | (rw [if_neg (by decide +kernel)]; exact ⟨rfl, rfl⟩))
    (fun os started H enc _ => lifted os started H enc)
theorem params : Tryz.f5.params = #[27, 48, 22, 9] := by kernel_rfl
theorem card : Rows.BookOwnsCardSaid :=
  Claim7.holds_tied_plain_at .later [] [.data, .data, .data, .data, .sentinel, .sentinel, .pinned] true (true, "3efdfb6cdb87a522b63e0e8ac9e4f4e0d67411179f0b74c50583ccc2d4ad2a88") true
    over (fun _ h => by cases h) (by kernel_rfl) (fun _ h => by cases h) bookOwns_row_tie rfl ⟨rfl, rfl⟩ (by kernel_rfl) rfl
    (fun f fn hf hfn => by
      obtain rfl : f = 5 := Option.some.inj ((show Tryz.prog.funcNamed "pairworks/pairworkslaw14.BookOwns" = some 5 by kernel_rfl).symm.trans hf) |>.symm
      obtain rfl : fn = Tryz.f5 := (Option.some.inj (Tryz.func5.symm.trans hfn)).symm
      exact ⟨by kernel_rfl, fun j t ht => by
        rw [params] at ht
        have hm : t ∈ [27, 48, 22, 9] := by simpa using Array.mem_of_getElem? ht
        have hall : ([27, 48, 22, 9].all fun u => !Tryz.prog.wantsStandIn u) = true := by kernel_rfl
        exact (show Tryz.prog.wantsStandIn t = false by simpa using List.all_eq_true.1 hall t hm)⟩)
    (by kernel_rfl)
end bookOwns
theorem bookOwns_holds : Rows.BookOwnsCardSaid := bookOwns.card
#print axioms bookOwns_holds
end Go.Proofs.YtleamcmljcdapabGreatDoor
