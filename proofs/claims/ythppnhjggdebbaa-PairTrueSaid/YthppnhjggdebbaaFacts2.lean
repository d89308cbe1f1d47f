/- Layer 1, plain facts for the law on why a thing moved. -/
import Derived.Test.YthppnhjggdebbaaFacts
set_option linter.unusedSimpArgs false
set_option linter.unusedVariables false
namespace Go.Pw1
open Go Go.Eng
theorem why_ok {p : Pr} {n : Int} (h : (whyX p n).2 = 0) : p.Ok ∧ thingR p n = true ∧ isB (allS p) = true ∧ (whyX p n).1 = whyS p (thingAt p n) (allS p) ∧ shiftX p n = (shift (thingAt p n), 0) ∧ powerX p = (allS p, 0) := by
  rw [shift_same, power_same]
  unfold whyX at h ⊢
  unfold shiftR powerR openR
  rw [truthsX_one] at h ⊢
  cases hp : isPair p with
  | false => simp [hp] at h
  | true =>
    cases ht : thingR p n with
    | false => simp [hp, ht] at h
    | true =>
      cases ha : isB (allS p) with
      | false => simp [hp, ht, ha] at h
      | true => exact ⟨isPair_ok hp, rfl, rfl, by simp, by simp, by simp⟩
theorem why_err {p : Pr} {n : Int} (h : ¬ (whyX p n).2 = 0) : (whyX p n).1 = 0 ∧ (decide ((whyX p n).2 = 1) == !isPair p) = true ∧ ((shiftX p n).2 = (whyX p n).2 ∨ (whyX p n).2 = 4) ∧ ((powerX p).2 = (whyX p n).2 ∨ (whyX p n).2 = 2) := by
  rw [shift_same, power_same]
  unfold whyX at h ⊢
  unfold shiftR powerR openR
  rw [truthsX_one] at h ⊢
  cases hp : isPair p with
  | false => simp
  | true =>
    cases ht : thingR p n with
    | false => simp
    | true =>
      cases ha : isB (allS p) with
      | false => simp
      | true => simp [hp, ht, ha] at h
theorem thingR_rng {p : Pr} {n : Int} (h : thingR p n = true) : 0 ≤ n ∧ n < p.things.length := by
  obtain ⟨k, rfl, hk⟩ := thingR_in h
  omega
theorem why_bad {p : Pr} {n : Int} (h : (((¬(whyX p n).2 = 0 ∨ isPair p = false) ∨ n < 0) ∨ (p.things.length : Int) ≤ n)) : ¬ (whyX p n).2 = 0 := by
  intro h0
  obtain ⟨hp, ht, _⟩ := why_ok h0
  have := thingR_rng ht
  rw [ok_isPair hp] at h
  simp [h0] at h
  omega
theorem levelS_iff {p : Pr} (hp : p.Ok) {t : Th} (ht : t.Ok) : levelS p t = true ↔ ¬ (p.tilt < t.ly.lo - t.ry.hi ∨ p.tilt < t.ry.lo - t.ly.hi) := by
  obtain ⟨⟨h1, h2, h3⟩, ⟨h4, h5, h6⟩, ⟨h7, h8, h9⟩, ⟨h10, h11, h12⟩⟩ := ht
  have t1 := hp.t1
  simp only [levelS, isB, decide_eq_true_eq]
  simp only [nar]
  omega
theorem whyS_rng (p : Pr) (t : Th) (w : Int × Int) : 0 ≤ whyS p t w ∧ whyS p t w ≤ 4 := by
  rw [whyS_eq]
  split
  · omega
  · split
    · omega
    · split
      · omega
      · split <;> omega
theorem land_in {p : Pr} {t : Th} (hw : isB (allS p) = true) (hm : t ∈ p.things) (hf : t.far ≠ 0) : isB (nar (allS p) (powersR p t)) = true :=
  isB_of (inB_nar.2 ⟨isB_iff.1 hw, (allS_in.1 (isB_iff.1 hw)).2 t hm hf⟩)
def RowsP (p : Pr) (t : Th) : Prop := p.tilt < t.ly.lo - t.ry.hi ∨ p.tilt < t.ry.lo - t.ly.hi
def NearP (p : Pr) (s w : Int × Int) : Prop := 2000 < max 0 s.1 ∨ w.2 / p.near < max 0 s.1
def FarP (p : Pr) (s w : Int × Int) : Prop := s.2 < w.1 / p.far ∨ 2000 < w.1 / p.far
theorem why_facts {p : Pr} (hp : p.Ok) {t : Th} (hm : t ∈ p.things) (hw : isB (allS p) = true) :
    (whyS p t (allS p) = 0 → ¬ RowsP p t ∧ 0 ≤ (shift t).2 ∧ (t.far ≠ 0 ∨ (¬ NearP p (shift t) (allS p) ∧ ¬ FarP p (shift t) (allS p)))) ∧ (whyS p t (allS p) = 1 → RowsP p t) ∧ (whyS p t (allS p) = 2 → ¬ RowsP p t ∧ (shift t).2 < 0) ∧
    (whyS p t (allS p) = 3 → ¬ RowsP p t ∧ 0 ≤ (shift t).2 ∧ NearP p (shift t) (allS p) ∧ t.far = 0) ∧ (whyS p t (allS p) = 4 → ¬ RowsP p t ∧ 0 ≤ (shift t).2 ∧ ¬ NearP p (shift t) (allS p) ∧ FarP p (shift t) (allS p) ∧ t.far = 0) := by
  have hth := (hp.ths t hm).1
  have hl := levelS_iff hp hth
  have hsh := shift_le hth
  obtain ⟨w1, w2⟩ := allS_bd hp
  have wi := (isB_iff.1 hw).2
  have n1 := hp.n1
  have n2 := hp.n2
  have hland := land_in hw hm
  rw [whyS_eq]
  by_cases hs : isB (nar (allS p) (powersR p t)) = true
  · rw [if_pos hs]
    refine ⟨fun _ => ?_, fun h => absurd h (by omega), fun h => absurd h (by omega), fun h => absurd h (by omega), fun h => absurd h (by omega)⟩
    obtain ⟨x, hx, hx2⟩ := isB_nar hs
    obtain ⟨z1, z2, st, hb, hlv⟩ := stl_of hp hm (by simp only [InB] at hx; omega) hx2
    refine ⟨hl.1 hlv, ?_, ?_⟩
    · have h1 := st.s0
      have h2 := st.s1
      simp only [shownS, nar] at h1 h2
      omega
    · by_cases hf : t.far = 0
      · right
        obtain ⟨rfl, rfl⟩ := st.other hf
        rw [st.e1] at hx2
        have s0 := st.s0
        have s1 := st.s1
        have s2 := st.s2
        have e1 : (shownS t).1 = max 0 (shift t).1 := by simp only [shownS, nar]; omega
        have e2 : (shownS t).2 = min (shift t).2 2000 := by simp only [shownS, nar]
        simp only [InB] at hx hx2
        rw [e1, e2] at hx2
        rw [e1, e2] at s1
        rw [e1] at s0
        rw [e2] at s2
        unfold NearP FarP
        generalize max 0 (shift t).1 = a1 at *
        refine ⟨?_, ?_⟩
        · have h3 : a1 ≤ (allS p).2 / p.near := by rw [le_div (by omega)]; omega
          omega
        · have h4 : (allS p).1 / p.far < min (shift t).2 2000 + 1 := by rw [div_lt (by omega)]; omega
          omega
      · exact .inl hf
  · rw [if_neg hs]
    have hf : t.far = 0 := by
      by_cases hf : t.far = 0
      · exact hf
      · exact absurd (hland hf) hs
    by_cases hlv : levelS p t = true
    · have hnr := hl.1 hlv
      rw [hlv]
      simp only [Bool.not_true, Bool.false_eq_true, if_false]
      by_cases h2 : (shift t).2 < 0
      · rw [if_pos h2]
        exact ⟨fun h => absurd h (by omega), fun h => absurd h (by omega), fun _ => ⟨hnr, h2⟩, fun h => absurd h (by omega), fun h => absurd h (by omega)⟩
      · rw [if_neg h2]
        by_cases h3 : 2000 < (shift t).1 ∨ (allS p).2 < (shift t).1 * p.near
        · rw [if_pos h3]
          refine ⟨fun h => absurd h (by omega), fun h => absurd h (by omega), fun h => absurd h (by omega), fun _ => ⟨hnr, by omega, ?_, hf⟩, fun h => absurd h (by omega)⟩
          unfold NearP
          rcases h3 with h3 | h3
          · left; omega
          · right
            have h4 : 0 < (shift t).1 := by
              by_cases h5 : 0 < (shift t).1
              · exact h5
              · have := Int.mul_nonpos_of_nonpos_of_nonneg (show (shift t).1 ≤ 0 by omega) (show 0 ≤ p.near by omega)
                omega
            have h5 : max 0 (shift t).1 = (shift t).1 := by omega
            rw [h5, div_lt (by omega)]
            exact h3
        · rw [if_neg h3]
          refine ⟨fun h => absurd h (by omega), fun h => absurd h (by omega), fun h => absurd h (by omega), fun h => absurd h (by omega), fun _ => ⟨hnr, by omega, ?_, ?_, hf⟩⟩
          · unfold NearP
            have h4 : max 0 (shift t).1 ≤ (allS p).2 / p.near := by
              rw [le_div (by omega)]
              by_cases h5 : 0 ≤ (shift t).1
              · rw [show max 0 (shift t).1 = (shift t).1 by omega]; omega
              · rw [show max 0 (shift t).1 = 0 by omega]; omega
            omega
          · have hb : isB (shownS t) = true := by
              simp only [isB, decide_eq_true_eq]
              simp only [shownS, nar]
              omega
            have he : powersR p t = ((shownS t).1 * p.near, ((shownS t).2 + 1) * p.far - 1) := by
              unfold powersR powersS
              rw [if_pos (by rw [hb, hlv]; rfl), if_pos hf]
            have sb := shown_bd hb
            have e1 : (shownS t).1 = max 0 (shift t).1 := by simp only [shownS, nar]; omega
            have e2 : (shownS t).2 = min (shift t).2 2000 := by simp only [shownS, nar]
            have h6 : (shownS t).1 * p.near ≤ (allS p).2 := by
              rw [e1]
              by_cases h5 : 0 ≤ (shift t).1
              · rw [show max 0 (shift t).1 = (shift t).1 by omega]; omega
              · rw [show max 0 (shift t).1 = 0 by omega]; omega
            have h7 : (shownS t).1 * p.near ≤ ((shownS t).2 + 1) * p.far - 1 := by
              have m1 := Int.mul_le_mul (show (shownS t).1 ≤ (shownS t).2 by omega) n2 (by omega) (by omega)
              have m2 : ((shownS t).2 + 1) * p.far = (shownS t).2 * p.far + p.far := by rw [Int.add_mul]; omega
              omega
            have h8 : ((shownS t).2 + 1) * p.far - 1 < (allS p).1 := by
              by_cases h9 : (allS p).1 ≤ ((shownS t).2 + 1) * p.far - 1
              · refine absurd (isB_of (x := max (allS p).1 ((shownS t).1 * p.near)) (inB_nar.2 ⟨?_, ?_⟩)) hs
                · simp only [InB]; omega
                · rw [he]; simp only [InB]; omega
              · omega
            have h9 : (shownS t).2 + 1 ≤ (allS p).1 / p.far := by rw [le_div (by omega)]; omega
            unfold FarP
            rw [e2] at h9
            omega
    · rw [Bool.not_eq_true] at hlv
      rw [hlv]
      simp only [Bool.not_false, if_true]
      have hr : RowsP p t := by
        by_cases hr : RowsP p t
        · exact hr
        · rw [hl.2 hr] at hlv; cases hlv
      exact ⟨fun h => absurd h (by omega), fun _ => hr, fun h => absurd h (by omega), fun h => absurd h (by omega), fun h => absurd h (by omega)⟩
end Go.Pw1
