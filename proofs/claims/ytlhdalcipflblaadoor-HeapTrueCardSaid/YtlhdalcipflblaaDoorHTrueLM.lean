/- Whatever the number and the list of u16: HeapTrue returns true and leaves its arguments as they were. No condition. -/
import Derived.Test.YtlhdalcipflblaaDoorTie
import Derived.Test.YtlhdalcipflblaaDoorCards
import Derived.Lay
import Derived.MakeChecks
import Derived.Test.YtlhdalcipflblaaDoorT06
set_option linter.unusedSimpArgs false
set_option linter.unusedVariables false
namespace Go.Proofs.YtlhdalcipflblaaDoor
open Go Go.Eng Go.Hp Go.Pw1
open Go.ChangeShapes Go.WideShapes Go.ChangeAt Go.RowKit

theorem rows_of {α : Type} {f : α → List Value} : ∀ {xs : List (List Value)}, (∀ x ∈ xs, ∃ a, x = f a) → ∃ l : List α, xs = l.map f
  | [], _ => ⟨[], rfl⟩
  | x :: xs, h => by
    obtain ⟨a, rfl⟩ := h x (by simp)
    obtain ⟨l, rfl⟩ := rows_of (xs := xs) (fun y hy => h y (List.mem_cons_of_mem _ hy))
    exact ⟨a :: l, rfl⟩
theorem rd_u16 {w : World} {x : List Value} (h : Rd w (.int .u16) x) : ∃ v : {v : Int // 0 ≤ v ∧ v ≤ 65535}, x = [.int .u16 v.1] := by
  cases h with
  | @int _ v hw => exact ⟨⟨v, by simpa [Lit.wf, IntKind.min, IntKind.max, IntKind.signed, IntKind.bits] using hw⟩, rfl⟩
theorem hTrue_walk (W : World) (vs : List Value) (h : RdAll W [.int .u8, .sl (.int .u16)] vs) : Calls Tryd.prog 5 vs.toArray W (Pure (.bool true) W) := by
  cases h with
  | cons h0 h =>
  cases h with
  | cons h1 h =>
  cases h
  cases h0 with
  | @int _ v hw =>
  have hv : 0 ≤ v ∧ v ≤ 255 := by simpa [Lit.wf, IntKind.min, IntKind.max, IntKind.signed, IntKind.bits] using hw
  obtain ⟨n, rfl⟩ : ∃ n : Nat, v = (n : Int) := ⟨v.toNat, by omega⟩
  cases h1 with
  | slNil => exact htrue_calls n (by omega) [] (by simp) (by simp) none 0 0 0 W Sl.emp
  | @sl _ ad cap2 _ hs hl hc hx2 =>
    obtain ⟨l, rfl⟩ := rows_of (f := fun v : {v : Int // 0 ≤ v ∧ v ≤ 65535} => [Value.int .u16 v.1]) (fun x hx' => rd_u16 (hx2 x hx'))
    have e : (l.map fun v => [Value.int .u16 v.1]) = u16s (l.map (·.1)) := by simp [u16s]
    have := htrue_calls n (by omega) (l.map (·.1)) (fun v hv => by
      obtain ⟨z, _, rfl⟩ := List.mem_map.1 hv
      exact z.2) (by simp at hl ⊢; omega) (some ad) _ _ cap2 W (e ▸ hs)
    rw [List.length_map] at this ⊢
    exact this
namespace heapTrue
theorem own : ownKnob Tryd.prog.godebug = none := by kernel_rfl
theorem laidOut : laidOutB Tryd.prog = true := by kernel_rfl
set_option maxRecDepth 100000 in
theorem lifted (os : Os) (started : os.Started) (H : Type) (enc : TypeId × Value → H) :
    ReturnsInHanded {} Tryd.checked os 5 .any (fun w args => (Rows.heapTrueSpec.pre enc Tryd.prog Tryd.f5 Rows.heapTrueRow.domain false w args ∧ laidMetH Tryd.prog Rows.heapTrueRow.laid w) ∧ sizedMet enc Tryd.prog Tryd.f5 (OpenSpec.ofChange Rows.heapTrueSpec) false w args) (Rows.heapTrueSpec.post enc Tryd.prog Tryd.f5 false true false false) := by
  refine returnsInHanded_of_change_and (C := Tryd.checked) (X := fun w _ => laidMetH Tryd.prog Rows.heapTrueRow.laid w) (fun _ _ _ hh h => h.of_heap hh) own started (by kernel_rfl) Tryd.func5
    (ChangeSpec.witness_shaped (enc := enc) (C := Tryd.checked) (os := os) (X := fun w _ => laidMetH Tryd.prog Rows.heapTrueRow.laid w) false (World.laidAll Tryd.prog os Rows.heapTrueRow.laid) #[.int .u8 0, .slice none 0 0] 8 (World.laidAll_os _ _ _)
      (World.shaped_of_ZipB (by kernel_rfl) (by kernel_rfl)) (by kernel_rfl) (by kernel_rfl) (by kernel_rfl)
      (by rw [MakeChecks.laidMetH_plain _ _ _ (by kernel_rfl)]; exact laidMet_laidAll _ (by kernel_rfl) (by kernel_rfl))) ?_
  intro W base args ds gs before hval hW hcnd _ _ _
  exact law_contract (n := 9) (shs := [.int .u8, .sl (.int .u16)]) (tb := 4) laidOut (by kernel_rfl) (by kernel_rfl) (by kernel_rfl) (by kernel_rfl) rfl (fun ds hd => by
    match ds, hd with
    | [d0, d1], _ => rfl) (hTrue_walk) hval hW
theorem over : Rows.heapTrueRow.holds Tryd.pinned (OpenSpec.ofChange Rows.heapTrueSpec) :=
  OpenClaim.holds_of_wide 5 Tryd.f5 rfl rfl rfl rfl rfl rfl rfl ⟨rfl, rfl, rfl, rfl, rfl⟩ rfl rfl rfl rfl rfl (by kernel_rfl) Tryd.func5 (by kernel_rfl)
    (of_decide_eq_true (by kernel_rfl)) (by unfold Func.isWrapper; first | (rw [if_pos (by decide +kernel)]; kernel_rfl) | (rw [if_neg (by decide +kernel)]; exact ⟨rfl, rfl⟩))
    (fun os started H enc _ => lifted os started H enc)
theorem params : Tryd.f5.params = #[5, 41] := by kernel_rfl
theorem card : Rows.HeapTrueCardSaid :=
  Claim7.holds_tied_plain_at .later [] [.data, .data, .data] true (true, "f563ca50ea74c5fe96f9240d320022ce8a900bc51df04f402a72f05e5acd4514") false
    over (fun _ h => by cases h) (by kernel_rfl) (fun _ h => by cases h) heapTrue_row_tie rfl ⟨rfl, rfl⟩ (by kernel_rfl) rfl
    (fun f fn hf hfn => by
      obtain rfl : f = 5 := Option.some.inj ((show Tryd.prog.funcNamed "pairworks/pairworkslaw10.HeapTrue" = some 5 by kernel_rfl).symm.trans hf) |>.symm
      obtain rfl : fn = Tryd.f5 := (Option.some.inj (Tryd.func5.symm.trans hfn)).symm
      exact ⟨by kernel_rfl, fun j t ht => by
        rw [params] at ht
        have hm : t ∈ [5, 41] := by simpa using Array.mem_of_getElem? ht
        have hall : ([5, 41].all fun u => !Tryd.prog.wantsStandIn u) = true := by kernel_rfl
        exact (show Tryd.prog.wantsStandIn t = false by simpa using List.all_eq_true.1 hall t hm)⟩)
    (by kernel_rfl)
end heapTrue
theorem heapTrue_holds : Rows.HeapTrueCardSaid := heapTrue.card
#print axioms heapTrue_holds
end Go.Proofs.YtlhdalcipflblaaDoor
