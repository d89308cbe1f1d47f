/- Whatever the card and the list of u16: MountTrue returns true and leaves its arguments as they were. No condition. -/
import Derived.Test.YthoheicppmbepaaRows
import Derived.Test.YthoheicppmbepaaMq
set_option linter.unusedSimpArgs false
set_option linter.unusedVariables false
namespace Go.Proofs.Ythoheicppmbepaa
open Go Go.Eng Go.Pw1
open Go.ChangeShapes Go.WideShapes Go.ChangeAt Go.RowKit

theorem rd_u16 {w : World} {x : List Value} (h : Rd w (.int .u16) x) : ∃ v : {v : Int // 0 ≤ v ∧ v ≤ 65535}, x = [.int .u16 v.1] := by
  cases h with
  | @int _ v hw => exact ⟨⟨v, by simpa [Lit.wf, IntKind.min, IntKind.max, IntKind.signed, IntKind.bits] using hw⟩, rfl⟩
theorem mTrue_walk (W : World) (vs : List Value) (h : RdAll W [cdSh, .sl (.int .u16)] vs) : Calls Try.prog 3 vs.toArray W (Pure (.bool true) W) := by
  cases h with
  | cons h0 h =>
  cases h with
  | cons h1 h =>
  cases h
  obtain ⟨c, q, b, o, cap, rfl, hp⟩ := rd_cd h0
  cases h1 with
  | slNil => exact trueL_calls c [] (by simp) (by simp) none 0 0 0 q b o cap W hp.s Sl.emp
  | @sl _ ad cap2 _ hs hl hc hx2 =>
    obtain ⟨l, rfl⟩ := rows_of (f := fun v : {v : Int // 0 ≤ v ∧ v ≤ 65535} => [Value.int .u16 v.1]) (fun x hx' => rd_u16 (hx2 x hx'))
    have e : (l.map fun v => [Value.int .u16 v.1]) = u16s (l.map (·.1)) := by simp [u16s]
    have := trueL_calls c (l.map (·.1)) (fun v hv => by
      obtain ⟨z, _, rfl⟩ := List.mem_map.1 hv
      exact z.2) (by simp at hl ⊢; omega) (some ad) _ _ cap2 q b o cap W hp.s (e ▸ hs)
    rw [List.length_map] at this ⊢
    exact this
namespace mountTrue
theorem own : ownKnob Try.prog.godebug = none := by kernel_rfl
theorem laidOut : laidOutB Try.prog = true := by kernel_rfl
set_option maxRecDepth 100000 in
theorem lifted (os : Os) (started : os.Started) (H : Type) (enc : TypeId × Value → H) :
    ReturnsInHanded {} Try.checked os 3 .any (Rows.mountTrueSpec.pre6 enc Try.prog Try.f3 Rows.mountTrueRow.domain false) (Rows.mountTrueSpec.post enc Try.prog Try.f3 false true false false) := by
  refine returnsInHanded_of_change (C := Try.checked) own started (by kernel_rfl) Try.func3
    (ChangeSpec.witness6 (enc := enc) (C := Try.checked) false ⟨#[], #[.agg #[.int .i64 0, .int .i64 0, .int .i64 0, .int .i64 0, .int .i64 0, .int .i64 0, .int .i64 0, .slice none 0 0, .int .i64 0, .int .i64 0, .int .i64 0, .int .i64 0, .int .i64 0, .int .i64 0, .int .i64 0, .int .i64 0, .int .i64 0], .slice none 0 0], []⟩ 8 (by kernel_rfl) (by kernel_rfl) (by kernel_rfl) (by kernel_rfl)) ?_
  intro W base args ds gs before hval hW hcnd _
  exact law_contract (n := 9) (shs := [cdSh, .sl (.int .u16)]) (tb := 4) laidOut (by kernel_rfl) (by kernel_rfl) (by kernel_rfl) (by kernel_rfl) rfl (fun ds hd => by
    match ds, hd with
    | [d0, d1], _ => rfl) (mTrue_walk) hval hW
theorem over : Rows.mountTrueRow.holds Try.pinned (OpenSpec.ofChange Rows.mountTrueSpec) :=
  OpenClaim.holds_of_wide 3 Try.f3 rfl rfl rfl rfl rfl rfl rfl ⟨rfl, rfl, rfl, rfl, rfl⟩ rfl rfl rfl rfl rfl (by kernel_rfl) Try.func3 (by kernel_rfl)
    (of_decide_eq_true (by kernel_rfl)) (by unfold Func.isWrapper; first | (rw [if_pos (by decide +kernel)]; kernel_rfl) | (rw [if_neg (by decide +kernel)]; exact ⟨rfl, rfl⟩))
    (fun os started H enc _ => lifted os started H enc)
end mountTrue
theorem mountTrue_holds : Rows.MountTrueSaid := mountTrue.over
#print axioms mountTrue_holds
end Go.Proofs.Ythoheicppmbepaa
