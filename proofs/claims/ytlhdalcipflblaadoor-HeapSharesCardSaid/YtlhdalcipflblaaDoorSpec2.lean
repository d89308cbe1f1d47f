/- Layer 1 in plain words: why, distance. -/
import Derived.Test.YtlhdalcipflblaaDoorSpec
set_option linter.unusedSimpArgs false
set_option linter.unusedVariables false
namespace Go.Pw1
open Go Go.Eng
def whyS (p : Pr) (t : Th) (w : Int × Int) : Int :=
  if (stillS p t w).2 then 0 else 1 + idxF id [!levelS p t, decide ((shift t).2 < 0), decide (2000 < (shift t).1 ∨ w.2 < (shift t).1 * p.near), true]
def whyX (p : Pr) (n : Int) : Int × Int := match truthsX p [n] with | .error k => (0, k) | .ok w => (whyS p (thingAt p n) w, 0)
def distX (p : Pr) (n : Int) : (Int × Int) × Int :=
  match truthsX p [n] with
  | .error k => ((0, 0), k)
  | .ok w =>
    let t := thingAt p n
    if (stillS p t w).2 then
      if t.far ≠ 0 then ((t.far, t.far), 0) else (nar (p.near, p.far) (w.1 / ((shownS t).2 + 1) + 1, if 0 < (shownS t).1 then w.2 / (shownS t).1 else p.far), 0)
    else ((0, 0), 11)
theorem idxF_ge0 {α : Type} (f : α → Bool) (l : List α) : -1 ≤ idxF f l := idxF_ge f l
theorem idxF_lt {α : Type} (f : α → Bool) : ∀ l : List α, idxF f l < l.length ∨ idxF f l = -1
  | [] => by simp [idxF]
  | x :: l => by
    have h := idxF_lt f l
    unfold idxF
    split
    · left; simp only [List.length_cons]; omega
    · split
      · exact .inr rfl
      · left; simp only [List.length_cons]; omega
theorem truths_bd {p : Pr} {l : List Int} {w : Int × Int} (h : truthsX p l = .ok w) : p.Ok ∧ openX p l = .ok () ∧ 1 ≤ w.1 ∧ w.1 ≤ w.2 ∧ w.2 ≤ 500000000 := by
  obtain ⟨h1, h2⟩ := truthsX_ok h
  have hp := isPair_ok (openX_ok h1).1
  have h3 := look_bd hp (w := w) (by unfold lookX; rw [h2])
  exact ⟨hp, h1, h3⟩
theorem still_isB {p : Pr} {t : Th} {w : Int × Int} (h : (stillS p t w).2 = true) : isB (shownS t) = true ∧ levelS p t = true := by
  unfold stillS at h
  split at h
  · rename_i h1; rw [Bool.and_eq_true] at h1; exact h1
  · cases h
theorem div_rng2 {a b : Int} (h0 : 0 ≤ a) (h1 : a ≤ 1000000000000) (hb : 0 < b) : -9223372036854775808 ≤ a / b + 1 ∧ a / b + 1 ≤ 9223372036854775807 := by
  have h2 := Int.ediv_nonneg h0 (Int.le_of_lt hb)
  have h3 := Int.ediv_le_self b h0
  omega
end Go.Pw1
