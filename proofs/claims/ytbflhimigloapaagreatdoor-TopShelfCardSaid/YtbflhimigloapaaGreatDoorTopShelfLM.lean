/- TopShelf returns true. No condition. -/
import Derived.Test.YtbflhimigloapaaGreatDoorTie
import Derived.Test.YtbflhimigloapaaGreatDoorCards
import Derived.Lay
import Derived.MakeChecks
import Derived.Test.YtbflhimigloapaaGreatDoorS07
set_option linter.unusedSimpArgs false
set_option linter.unusedVariables false
namespace Go.Proofs.YtbflhimigloapaaGreatDoor
open Go.Q
open Go Go.Eng Go.Dk Go.Pw1
open Go.ChangeShapes Go.WideShapes Go.ChangeAt Go.RowKit

namespace topShelf
theorem own : ownKnob Tryz.prog.godebug = none := by kernel_rfl
theorem laidOut : laidOutB Tryz.prog = true := by kernel_rfl
set_option maxRecDepth 100000 in
theorem lifted (os : Os) (started : os.Started) (H : Type) (enc : TypeId × Value → H) :
  ReturnsInHanded {} Tryz.checked os 4 .any (fun w args => (Rows.topShelfSpec.pre enc Tryz.prog Tryz.f4 Rows.topShelfRow.domain false w args ∧ laidMetH Tryz.prog Rows.topShelfRow.laid w) ∧ sizedMet enc Tryz.prog Tryz.f4 (OpenSpec.ofChange Rows.topShelfSpec) false w args) (Rows.topShelfSpec.post enc Tryz.prog Tryz.f4 false true false false) := by
 refine AU7 (C := Tryz.checked) (X := fun w _ => laidMetH Tryz.prog Rows.topShelfRow.laid w) (fun _ _ _ hh h => h.of_heap hh) own started (by kernel_rfl) Tryz.func4
  (ChangeSpec.witness_shaped (enc := enc) (C := Tryz.checked) (os := os) (X := fun w _ => laidMetH Tryz.prog Rows.topShelfRow.laid w) false (World.laidAll Tryz.prog os Rows.topShelfRow.laid) #[.agg #[.int .i64 0, .int .i64 0, .int .i64 0, .int .i64 0, .int .i64 0, .int .i64 0, .int .i64 0, .slice none 0 0, .int .i64 0, .int .i64 0, .int .i64 0, .int .i64 0, .int .i64 0, .int .i64 0, .int .i64 0, .int .i64 0, .int .i64 0], .slice none 0 0, .int .u8 0] 8 (World.laidAll_os _ _ _)
   (World.shaped_of_ZipB (by kernel_rfl) (by kernel_rfl)) (by kernel_rfl) (by kernel_rfl) (by kernel_rfl)
   (by rw [MakeChecks.laidMetH_plain _ _ _ (by kernel_rfl)]; exact laidMet_laidAll _ (CK6 os) (BW6 os))) ?_
 intro W base args ds gs before hval hW hsh hX
 exact Bw4 (n := 9) (shs := [cdSh, .sl .str, .int .u8]) (tb := 4) laidOut (by kernel_rfl) (by kernel_rfl) (by kernel_rfl) (by kernel_rfl) rfl (fun ds hd => by
  match ds, hd with
  | [d0, d1, d2], _ => rfl) (fun vs h => Bu7 W vs (DV7 hsh hX) h) hval hW
theorem fInPlace : Tryz.prog.inPlace 4 = Rows.topShelfRow.inPlace := by kernel_rfl
theorem fUnfollowed : Tryz.prog.unfollowed 4 = Rows.topShelfRow.unfollowed := by kernel_rfl
theorem fRecurses : Tryz.prog.recurses 4 = Rows.topShelfRow.recurses := by kernel_rfl
theorem fNamed : Tryz.prog.varsNamed 4 = Rows.topShelfRow.named := by kernel_rfl
theorem closed : joinedFacts Tryz.prog 4 Tryz.f4 Rows.topShelfSpec Rows.topShelfRow = true := by
 unfold joinedFacts
 rw [fInPlace, fUnfollowed, fRecurses, fNamed]
 kernel_rfl
theorem over : Rows.topShelfRow.holds Tryz.pinned (OpenSpec.ofChange Rows.topShelfSpec) :=
 OpenClaim.holds_of_wide 4 Tryz.f4 rfl rfl rfl rfl rfl rfl rfl ⟨rfl, rfl, rfl, rfl, rfl⟩ rfl rfl rfl rfl rfl (by kernel_rfl) Tryz.func4 closed
  (of_decide_eq_true (by kernel_rfl)) (by unfold Func.isWrapper; first | (rw [if_pos (by decide +kernel)]; kernel_rfl) | (rw [if_neg (by decide +kernel)]; exact ⟨rfl, rfl⟩))
  (fun os started H enc _ => lifted os started H enc)
theorem params : Tryz.f4.params = #[28, 29, 5] := by kernel_rfl
theorem card : Rows.TopShelfCardSaid :=
 Claim7.holds_tied_plain_at .later [] [.data, .data, .data, .data, .sentinel, .sentinel, .pinned] true (true, "6bb436dd5b42f29697afe784046c16e77bf88e076498681904c12d96ebedf0b9") true
  over (fun _ h => by cases h) (by kernel_rfl) (fun _ h => by cases h) topShelf_row_tie rfl ⟨rfl, rfl⟩ (by kernel_rfl) rfl
  (fun f fn hf hfn => by
   obtain rfl : f = 4 := Option.some.inj ((show Tryz.prog.funcNamed "pairworks/pairworkstop.TopShelf" = some 4 by kernel_rfl).symm.trans hf) |>.symm
   obtain rfl : fn = Tryz.f4 := (Option.some.inj (Tryz.func4.symm.trans hfn)).symm
   exact ⟨by kernel_rfl, fun j t ht => by
    rw [params] at ht
    have hm : t ∈ [28, 29, 5] := by simpa using Array.mem_of_getElem? ht
    have AH6 : ([28, 29, 5].all fun u => !Tryz.prog.wantsStandIn u) = true := by kernel_rfl
    exact (show Tryz.prog.wantsStandIn t = false by simpa using List.all_eq_true.1 AH6 t hm)⟩)
  (by kernel_rfl)
end topShelf
theorem topShelf_holds : Rows.TopShelfCardSaid := topShelf.card
#print axioms topShelf_holds
end Go.Proofs.YtbflhimigloapaaGreatDoor
