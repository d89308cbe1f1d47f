/- Whatever the boxes, the heap and the two numbers: HeapWays returns true and leaves its arguments as they were. No condition. -/
import Derived.Test.YtlhdalcipflblaaDoorTie
import Derived.Test.YtlhdalcipflblaaDoorCards
import Derived.Lay
import Derived.MakeChecks
import Derived.Test.YtlhdalcipflblaaDoorW06
set_option linter.unusedSimpArgs false
set_option linter.unusedVariables false
namespace Go.Proofs.YtlhdalcipflblaaDoor
open Go Go.Eng Go.Hp Go.Pw1
open Go.ChangeShapes Go.WideShapes Go.ChangeAt Go.RowKit

theorem hWays_walk (W : World) (vs : List Value) (h : RdAll W [mxSh, .int .i64, .int .i64] vs) : Calls Tryd.prog 4 vs.toArray W (Pure (.bool true) W) := by
  cases h with
  | cons h0 h =>
  cases h with
  | cons h1 h =>
  cases h with
  | cons h2 h =>
  cases h
  obtain ⟨m, rfl, hM⟩ := rd_mx h0
  cases h1 with
  | @int _ v hw =>
  cases h2 with
  | @int _ v2 hw2 => exact hways_calls m v v2 W hM
namespace heapWays
theorem own : ownKnob Tryd.prog.godebug = none := by kernel_rfl
theorem laidOut : laidOutB Tryd.prog = true := by kernel_rfl
set_option maxRecDepth 100000 in
theorem lifted (os : Os) (started : os.Started) (H : Type) (enc : TypeId × Value → H) :
    ReturnsInHanded {} Tryd.checked os 4 .any (fun w args => (Rows.heapWaysSpec.pre enc Tryd.prog Tryd.f4 Rows.heapWaysRow.domain false w args ∧ laidMetH Tryd.prog Rows.heapWaysRow.laid w) ∧ sizedMet enc Tryd.prog Tryd.f4 (OpenSpec.ofChange Rows.heapWaysSpec) false w args) (Rows.heapWaysSpec.post enc Tryd.prog Tryd.f4 false true false false) := by
  refine returnsInHanded_of_change_and (C := Tryd.checked) (X := fun w _ => laidMetH Tryd.prog Rows.heapWaysRow.laid w) (fun _ _ _ hh h => h.of_heap hh) own started (by kernel_rfl) Tryd.func4
    (ChangeSpec.witness_shaped (enc := enc) (C := Tryd.checked) (os := os) (X := fun w _ => laidMetH Tryd.prog Rows.heapWaysRow.laid w) false (World.laidAll Tryd.prog os Rows.heapWaysRow.laid) #[.agg #[.slice none 0 0, .slice none 0 0], .int .i64 0, .int .i64 0] 8 (World.laidAll_os _ _ _)
      (World.shaped_of_ZipB (by kernel_rfl) (by kernel_rfl)) (by kernel_rfl) (by kernel_rfl) (by kernel_rfl)
      (by rw [MakeChecks.laidMetH_plain _ _ _ (by kernel_rfl)]; exact laidMet_laidAll _ (by kernel_rfl) (by kernel_rfl))) ?_
  intro W base args ds gs before hval hW hcnd _ _ _
  exact law_contract (n := 9) (shs := [mxSh, .int .i64, .int .i64]) (tb := 4) laidOut (by kernel_rfl) (by kernel_rfl) (by kernel_rfl) (by kernel_rfl) rfl (fun ds hd => by
    match ds, hd with
    | [d0, d1, d2], _ => rfl) (hWays_walk) hval hW
theorem over : Rows.heapWaysRow.holds Tryd.pinned (OpenSpec.ofChange Rows.heapWaysSpec) :=
  OpenClaim.holds_of_wide 4 Tryd.f4 rfl rfl rfl rfl rfl rfl rfl ⟨rfl, rfl, rfl, rfl, rfl⟩ rfl rfl rfl rfl rfl (by kernel_rfl) Tryd.func4 (by kernel_rfl)
    (of_decide_eq_true (by kernel_rfl)) (by unfold Func.isWrapper; first | (rw [if_pos (by decide +kernel)]; kernel_rfl) | (rw [if_neg (by decide +kernel)]; exact ⟨rfl, rfl⟩))
    (fun os started H enc _ => lifted os started H enc)
theorem params : Tryd.f4.params = #[25, 3, 3] := by kernel_rfl
theorem card : Rows.HeapWaysCardSaid :=
  Claim7.holds_tied_plain_at .later [] [.data, .data, .data] true (true, "f563ca50ea74c5fe96f9240d320022ce8a900bc51df04f402a72f05e5acd4514") false
    over (fun _ h => by cases h) (by kernel_rfl) (fun _ h => by cases h) heapWays_row_tie rfl ⟨rfl, rfl⟩ (by kernel_rfl) rfl
    (fun f fn hf hfn => by
      obtain rfl : f = 4 := Option.some.inj ((show Tryd.prog.funcNamed "pairworks/pairworkslaw10.HeapWays" = some 4 by kernel_rfl).symm.trans hf) |>.symm
      obtain rfl : fn = Tryd.f4 := (Option.some.inj (Tryd.func4.symm.trans hfn)).symm
      exact ⟨by kernel_rfl, fun j t ht => by
        rw [params] at ht
        have hm : t ∈ [25, 3, 3] := by simpa using Array.mem_of_getElem? ht
        have hall : ([25, 3, 3].all fun u => !Tryd.prog.wantsStandIn u) = true := by kernel_rfl
        exact (show Tryd.prog.wantsStandIn t = false by simpa using List.all_eq_true.1 hall t hm)⟩)
    (by kernel_rfl)
end heapWays
theorem heapWays_holds : Rows.HeapWaysCardSaid := heapWays.card
#print axioms heapWays_holds
end Go.Proofs.YtlhdalcipflblaaDoor
