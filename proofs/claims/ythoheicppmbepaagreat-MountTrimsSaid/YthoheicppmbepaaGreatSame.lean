/- Layer 1, the plain laws: what the package answers, the reference answers. -/
import Derived.Test.YthoheicppmbepaaGreatSpec3
set_option linter.unusedSimpArgs false
set_option linter.unusedVariables false
namespace Go.Pw1
open Go Go.Eng

theorem openX_one (p : Pr) (n : Int) : openX p [n] = if isPair p then (if thingR p n then .ok () else .error 2) else .error 1 := by
  unfold openX thingR
  split
  · cases h : within n 0 ((p.things.length : Int) - 1) <;> simp [h]
  · rfl
theorem openX_two (p : Pr) (a b : Int) : openX p [a, b] = if isPair p then (if thingR p a && thingR p b then .ok () else .error 2) else .error 1 := by
  unfold openX thingR
  split
  · cases h : within a 0 ((p.things.length : Int) - 1) <;> cases h2 : within b 0 ((p.things.length : Int) - 1) <;> simp [h, h2]
  · rfl
theorem openX_nil (p : Pr) : openX p [] = if isPair p then .ok () else .error 1 := by simp [openX]
theorem shift_same (p : Pr) (n : Int) : shiftX p n = shiftR p n := by
  unfold shiftX shiftR
  rw [openX_one]
  cases isPair p <;> cases thingR p n <;> simp
theorem nearer_same (p : Pr) (a b : Int) : nearerX p a b = nearerR p a b := by
  unfold nearerX nearerR
  rw [openX_two]
  cases isPair p <;> cases (thingR p a && thingR p b) <;> simp
theorem truthsX_eq (p : Pr) (l : List Int) (h : openX p l = if isPair p then .ok () else .error 1) : truthsX p l = if isPair p then (if isB (allS p) then .ok (allS p) else .error 4) else .error 1 := by
  unfold truthsX
  rw [h]
  cases hp : isPair p with
  | false => simp
  | true => simp only [if_true]; exact lookX_eq (isPair_ok hp)
theorem power_same (p : Pr) : powerX p = powerR p := by
  unfold powerX powerR openR
  rw [truthsX_eq p [] (openX_nil p)]
  cases isPair p <;> cases isB (allS p) <;> simp
theorem stands_same (p : Pr) (far : Int) : standsX p far = standsR p far := by
  unfold standsX standsR openR
  rw [openX_nil]
  cases hp : isPair p with
  | false => simp
  | true =>
    simp only [if_true]
    rw [lookX_eq (isPair_ok hp)]
    cases within far p.near p.far <;> cases isB (allS p) <;> simp
theorem still_eq (p : Pr) (t : Th) (w : Int × Int) : (stillS p t w).2 = isB (nar w (powersR p t)) := by
  unfold stillS powersR
  split
  · rfl
  · have h : ¬ (max w.1 1 ≤ min w.2 0) := by omega
    exact (decide_eq_false h).symm
theorem still_nar {p : Pr} {t : Th} {w : Int × Int} (h : (stillS p t w).2 = true) : (stillS p t w).1 = nar w (powersR p t) := by
  unfold stillS powersR at *
  split
  · rfl
  · rename_i h1; rw [if_neg h1] at h; cases h
theorem allS_bd {p : Pr} (hp : p.Ok) : 1 ≤ (allS p).1 ∧ (allS p).2 ≤ 500000000 := by
  have hb := powers0_le hp
  have hle := allL_le p p.things (powers0 p)
  rw [show allL p (powers0 p) p.things = allS p from rfl] at hle
  omega
theorem truthsX_one (p : Pr) (n : Int) : truthsX p [n] = if isPair p then (if thingR p n then (if isB (allS p) then .ok (allS p) else .error 4) else .error 2) else .error 1 := by
  unfold truthsX
  rw [openX_one]
  cases hp : isPair p with
  | false => simp
  | true =>
    cases thingR p n with
    | false => simp
    | true => simp only [if_true]; exact lookX_eq (isPair_ok hp)
theorem whyS_eq (p : Pr) (t : Th) (w : Int × Int) : whyS p t w = if isB (nar w (powersR p t)) then 0 else if !levelS p t then 1 else if (shift t).2 < 0 then 2 else if 2000 < (shift t).1 ∨ w.2 < (shift t).1 * p.near then 3 else 4 := by
  unfold whyS
  rw [still_eq]
  split
  · rfl
  · simp only [idxF, id]
    cases levelS p t
    · simp
    · by_cases h2 : (shift t).2 < 0
      · simp [h2]
      · by_cases h3 : 2000 < (shift t).1 ∨ w.2 < (shift t).1 * p.near
        · simp [h2, h3]
        · simp [h2, h3]
theorem why_same (p : Pr) (n : Int) : whyX p n = whyR p n := by
  unfold whyX whyR openR
  rw [truthsX_one]
  cases isPair p with
  | false => simp
  | true =>
    cases thingR p n with
    | false => simp
    | true =>
      cases isB (allS p) with
      | false => simp
      | true =>
        simp only [if_true, whyS_eq, ne_eq, not_true_eq_false, if_false]
        split
        · rfl
        · split
          · rfl
          · split
            · rfl
            · split <;> rfl
theorem dist_same (p : Pr) (n : Int) : distX p n = distR p n := by
  unfold distX distR openR
  rw [truthsX_one]
  cases isPair p with
  | false => simp
  | true =>
    cases thingR p n with
    | false => simp
    | true =>
      cases isB (allS p) with
      | false => simp
      | true =>
        simp only [if_true, still_eq, ne_eq, not_true_eq_false, if_false]
        cases isB (nar (allS p) (powersR p (thingAt p n))) with
        | false => simp
        | true =>
          simp only [if_true]
          by_cases h : (thingAt p n).far = 0
          · by_cases h2 : 0 < (shownS (thingAt p n)).1
            · simp [h, h2, nar]
            · simp [h, h2, nar]
          · simp [h]
end Go.Pw1
