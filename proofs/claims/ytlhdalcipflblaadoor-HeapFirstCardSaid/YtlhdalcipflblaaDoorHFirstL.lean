/- Whatever the boxes, the heap and the list of bytes: HeapFirst returns true and leaves its arguments as they were. No condition. -/
import Derived.Test.YtlhdalcipflblaaDoorTie
import Derived.Test.YtlhdalcipflblaaDoorCards
import Derived.Lay
import Derived.MakeChecks
import Derived.Test.YtlhdalcipflblaaDoorHxb
set_option linter.unusedSimpArgs false
set_option linter.unusedVariables false
namespace Go.Proofs.YtlhdalcipflblaaDoor
open Go Go.Eng Go.Hp Go.Pw1
open Go.ChangeShapes Go.WideShapes Go.ChangeAt Go.RowKit

theorem rd_u8 {w : World} {x : List Value} (h : Rd w (.int .u8) x) : ∃ c : UInt8, x = [byteV c] ∧ True := by
  cases h with
  | @int _ v hw =>
    have hv : 0 ≤ v ∧ v ≤ 255 := by simpa [Lit.wf, IntKind.min, IntKind.max, IntKind.signed, IntKind.bits] using hw
    refine ⟨UInt8.ofNat v.toNat, ?_, trivial⟩
    unfold byteV
    have e : (UInt8.ofNat v.toNat).toNat = v.toNat := by
      rw [UInt8.toNat_ofNat']
      omega
    rw [e, show ((v.toNat : Nat) : Int) = v by omega]
theorem hFirst_walk (W : World) (vs : List Value) (h : RdAll W [mxSh, .sl (.int .u8)] vs) : Calls Tryd.prog 8 vs.toArray W (Pure (.bool true) W) := by
  cases h with
  | cons h0 h =>
  cases h with
  | cons h1 h =>
  cases h
  obtain ⟨m, rfl, hM⟩ := rd_mx h0
  cases h1 with
  | slNil => exact hfirst_calls m [] none 0 0 0 W hM Sl.emp (by simp)
  | @sl _ ad cap2 _ hs hl hc hx2 =>
    obtain ⟨l, rfl, _⟩ := rowsH_of (f := fun c : UInt8 => [byteV c]) (fun x hx' => rd_u8 (hx2 x hx'))
    have := hfirst_calls m l (some ad) _ _ cap2 W hM hs (by simp only [List.length_map, maxLen] at hl hc ⊢; omega)
    rw [List.length_map]
    exact this
namespace heapFirst
theorem own : ownKnob Tryd.prog.godebug = none := by kernel_rfl
theorem laidOut : laidOutB Tryd.prog = true := by kernel_rfl
set_option maxRecDepth 100000 in
theorem lifted (os : Os) (started : os.Started) (H : Type) (enc : TypeId × Value → H) :
    ReturnsInHanded {} Tryd.checked os 8 .any (fun w args => (Rows.heapFirstSpec.pre enc Tryd.prog Tryd.f8 Rows.heapFirstRow.domain false w args ∧ laidMetH Tryd.prog Rows.heapFirstRow.laid w) ∧ sizedMet enc Tryd.prog Tryd.f8 (OpenSpec.ofChange Rows.heapFirstSpec) false w args) (Rows.heapFirstSpec.post enc Tryd.prog Tryd.f8 false true false false) := by
  refine returnsInHanded_of_change_and (C := Tryd.checked) (X := fun w _ => laidMetH Tryd.prog Rows.heapFirstRow.laid w) (fun _ _ _ hh h => h.of_heap hh) own started (by kernel_rfl) Tryd.func8
    (ChangeSpec.witness_shaped (enc := enc) (C := Tryd.checked) (os := os) (X := fun w _ => laidMetH Tryd.prog Rows.heapFirstRow.laid w) false (World.laidAll Tryd.prog os Rows.heapFirstRow.laid) #[.agg #[.slice none 0 0, .slice none 0 0], .slice none 0 0] 8 (World.laidAll_os _ _ _)
      (World.shaped_of_ZipB (by kernel_rfl) (by kernel_rfl)) (by kernel_rfl) (by kernel_rfl) (by kernel_rfl)
      (by rw [MakeChecks.laidMetH_plain _ _ _ (by kernel_rfl)]; exact laidMet_laidAll _ (by kernel_rfl) (by kernel_rfl))) ?_
  intro W base args ds gs before hval hW hcnd _ _ _
  exact law_contract (n := 9) (shs := [mxSh, .sl (.int .u8)]) (tb := 4) laidOut (by kernel_rfl) (by kernel_rfl) (by kernel_rfl) (by kernel_rfl) rfl (fun ds hd => by
    match ds, hd with
    | [d0, d1], _ => rfl) (hFirst_walk) hval hW
theorem over : Rows.heapFirstRow.holds Tryd.pinned (OpenSpec.ofChange Rows.heapFirstSpec) :=
  OpenClaim.holds_of_wide 8 Tryd.f8 rfl rfl rfl rfl rfl rfl rfl ⟨rfl, rfl, rfl, rfl, rfl⟩ rfl rfl rfl rfl rfl (by kernel_rfl) Tryd.func8 (by kernel_rfl)
    (of_decide_eq_true (by kernel_rfl)) (by unfold Func.isWrapper; first | (rw [if_pos (by decide +kernel)]; kernel_rfl) | (rw [if_neg (by decide +kernel)]; exact ⟨rfl, rfl⟩))
    (fun os started H enc _ => lifted os started H enc)
theorem params : Tryd.f8.params = #[25, 47] := by kernel_rfl
theorem card : Rows.HeapFirstCardSaid :=
  Claim7.holds_tied_plain_at .later [] [.data, .data, .data] true (true, "f563ca50ea74c5fe96f9240d320022ce8a900bc51df04f402a72f05e5acd4514") false
    over (fun _ h => by cases h) (by kernel_rfl) (fun _ h => by cases h) heapFirst_row_tie rfl ⟨rfl, rfl⟩ (by kernel_rfl) rfl
    (fun f fn hf hfn => by
      obtain rfl : f = 8 := Option.some.inj ((show Tryd.prog.funcNamed "pairworks/pairworkslaw10.HeapFirst" = some 8 by kernel_rfl).symm.trans hf) |>.symm
      obtain rfl : fn = Tryd.f8 := (Option.some.inj (Tryd.func8.symm.trans hfn)).symm
      exact ⟨by kernel_rfl, fun j t ht => by
        rw [params] at ht
        have hm : t ∈ [25, 47] := by simpa using Array.mem_of_getElem? ht
        have hall : ([25, 47].all fun u => !Tryd.prog.wantsStandIn u) = true := by kernel_rfl
        exact (show Tryd.prog.wantsStandIn t = false by simpa using List.all_eq_true.1 hall t hm)⟩)
    (by kernel_rfl)
end heapFirst
theorem heapFirst_holds : Rows.HeapFirstCardSaid := heapFirst.card
#print axioms heapFirst_holds
end Go.Proofs.YtlhdalcipflblaaDoor
