/- Layer 3, plain laws: what the package answers, the reference answers. -/
import Derived.Test.YthoheicppmbepaaGreatMt
import Derived.Test.YthoheicppmbepaaGreatSame
set_option linter.unusedSimpArgs false
set_option linter.unusedVariables false
namespace Go.Pw1
open Go Go.Eng
theorem power_err (p : Pr) : (powerX p).2 = if isPair p then (if isB (allS p) then 0 else 4) else 1 := by
  rw [power_same]
  unfold powerR openR
  cases isPair p <;> cases isB (allS p) <;> rfl
def cardR (c : Cd) : Bool := (within c.half 1 4000 && within c.step 1 100 && within c.cuts 0 40 && decide (1 ≤ c.eyes.lo) && decide (c.eyes.lo ≤ c.eyes.hi) && decide (c.eyes.hi ≤ 10000)) && within c.prism 0 10000 && within c.squeeze 0 10000 && within c.front 0 10000 && within c.deep 0 10000 && isPair c.p
theorem cardR_eq (c : Cd) : cardR c = cardIs c := by
  unfold cardR cardIs
  rw [power_err]
  simp only [sizesM, eyesM, badM, List.any_cons, List.any_nil, Bool.or_false, Bool.not_or, Bool.not_not]
  cases isPair c.p
  · simp
  · cases isB (allS c.p) <;> simp [Bool.and_assoc]
def trR (c : Cd) (t : Tr) : Bool := within t.ll 0 c.cuts && within t.lr 0 c.cuts && within t.rl 0 c.cuts && within t.rr 0 c.cuts && decide (t.ll + t.lr = t.rl + t.rr)
theorem trR_eq (c : Cd) (t : Tr) : trR c t = trIs c t := by simp [trR, trIs, badT, Bool.and_assoc]
def checkR (c : Cd) (v : Bool) : Int := if cardR c then (if v then (powerR c.p).2 else 2) else 1
theorem check_nil (c : Cd) : openM c [] = checkR c true := by simp [openM, checkR, cardR_eq, power_same]
theorem check_one (c : Cd) (t : Tr) : openM c [t] = checkR c (trR c t) := by simp [openM, checkR, cardR_eq, trR_eq, power_same]
theorem check_pair {c : Cd} {v : Bool} (h : checkR c v = 0) : isPair c.p = true ∧ isB (allS c.p) = true ∧ c.Ok ∧ v = true := by
  unfold checkR at h
  split at h
  · rename_i hc
    rw [cardR_eq] at hc
    split at h
    · rename_i hv
      have h2 : (powerX c.p).2 = 0 := by rw [power_same]; exact h
      rw [power_err] at h2
      cases h3 : isPair c.p with
      | false => simp [h3] at h2
      | true =>
        cases h4 : isB (allS c.p) with
        | false => simp [h3, h4] at h2
        | true => exact ⟨rfl, rfl, (cardIs_ok hc).1, hv⟩
    · simp at h
  · simp at h
theorem shift_at {p : Pr} (hp : isPair p = true) {j : Nat} (hj : j < p.things.length) : (shiftX p j).1 = shift (thingAt p j) := by
  rw [shift_same]
  unfold shiftR
  rw [if_pos hp, if_pos (by simp [thingR, within]; omega)]
def hurtR (c : Cd) (t : Tr) (x : Th) : Int :=
  if apartM c t - (shift x).2 < c.eyes.hi - c.squeeze then 1
  else if c.eyes.lo + c.prism < apartM c t - (shift x).1 then 2
  else if windowM c t + c.front < (shift x).2 then 3
  else if (shift x).1 < windowM c t - c.deep then 4
  else if offM c t x then 5 else 0
theorem hurt_same {c : Cd} (hp : isPair c.p = true) (t : Tr) {j : Nat} (hj : j < c.p.things.length) : whyM c t j = hurtR c t (thingAt c.p j) := by
  unfold whyM
  rw [shift_at hp hj]
  unfold hurtR hurtL
  generalize shift (thingAt c.p j) = s
  by_cases h1 : apartM c t - s.2 < c.eyes.hi - c.squeeze
  · simp [idxF, h1]
  · by_cases h2 : c.eyes.lo + c.prism < apartM c t - s.1
    · simp [idxF, h1, h2]
    · by_cases h3 : windowM c t + c.front < s.2
      · simp [idxF, h1, h2, h3]
      · by_cases h4 : s.1 < windowM c t - c.deep
        · simp [idxF, h1, h2, h3, h4]
        · by_cases h5 : offM c t (thingAt c.p j) = true
          · simp [idxF, h1, h2, h3, h4, h5]
          · simp [idxF, h1, h2, h3, h4, h5]
def hurtRF (c : Cd) (t : Tr) : List Int → Option (Int × Int)
  | [] => none
  | i :: l => if hurtR c t (thingAt c.p i) = 0 then hurtRF c t l else some (i, hurtR c t (thingAt c.p i))
theorem hurtF_same {c : Cd} (hp : isPair c.p = true) (t : Tr) : ∀ {l : List Int}, (∀ i ∈ l, ∃ j : Nat, i = j ∧ j < c.p.things.length) → hurtF c t l = ((hurtRF c t l).getD (0, 0))
  | [], _ => rfl
  | i :: l, h => by
    obtain ⟨j, rfl, hj⟩ := h i (by simp)
    have ih := hurtF_same hp t (l := l) (fun k hk => h k (List.mem_cons_of_mem _ hk))
    unfold hurtF hurtRF
    rw [hurt_same hp t hj]
    split
    · exact ih
    · rfl
theorem hurtRF_none {c : Cd} {t : Tr} : ∀ {l : List Int}, hurtRF c t l = none ↔ (hurtRF c t l).getD (0, 0) = (0, 0) ∧ ((hurtRF c t l).getD (0, 0)).2 = 0
  | [] => by simp [hurtRF]
  | i :: l => by
    have ih := hurtRF_none (c := c) (t := t) (l := l)
    unfold hurtRF
    split
    · exact ih
    · rename_i h
      simp [h]
theorem hurtM_same {c : Cd} (hp : isPair c.p = true) (t : Tr) : hurtM c t = (hurtRF c t (seenN c.p)).getD (0, 0) := hurtF_same hp t (fun i hi => by
  obtain ⟨j, h1, h2, _⟩ := seenN_in hi; exact ⟨j, h1, h2⟩)
theorem hurtRF_all {c : Cd} {t : Tr} : ∀ {l : List Int}, (∀ i ∈ l, hurtR c t (thingAt c.p i) = 0) → hurtRF c t l = none
  | [], _ => rfl
  | i :: l, h => by simp [hurtRF, h i (by simp), hurtRF_all (fun j hj => h j (List.mem_cons_of_mem _ hj))]
theorem hurtRF_hit {c : Cd} {t : Tr} : ∀ {l : List Int} {k : Nat} (hk : k < l.length), (∀ j (h : j < k), hurtR c t (thingAt c.p l[j]) = 0) → hurtR c t (thingAt c.p l[k]) ≠ 0 → hurtRF c t l = some (l[k], hurtR c t (thingAt c.p l[k]))
  | i :: l, 0, _, _, h => by simp at h; simp [hurtRF, h]
  | i :: l, k + 1, hk, h1, h2 => by
    have h0 := h1 0 (by omega)
    simp only [List.getElem_cons_zero] at h0
    simp only [hurtRF, h0, if_true, List.getElem_cons_succ] at h2 ⊢
    exact hurtRF_hit (by simpa using hk) (fun j h => by simpa using h1 (j + 1) (by omega)) h2
def hurtsR (c : Cd) (t : Tr) : Int × Int × Int := if checkR c (trR c t) = 0 then (match hurtRF c t (seenN c.p) with | some x => (x.1, x.2, 11) | none => (0, 0, 0)) else (0, 0, checkR c (trR c t))
theorem hurts_same (c : Cd) (t : Tr) : hurtsX c t = hurtsR c t := by
  unfold hurtsX hurtsR
  rw [check_one]
  split
  · rename_i h
    have hp := (check_pair h).1
    rw [hurtM_same hp]
    cases h2 : hurtRF c t (seenN c.p) with
    | none => rfl
    | some x =>
      have h3 := (not_congr (hurtRF_none (c := c) (t := t) (l := seenN c.p))).1 (by rw [h2]; simp)
      rw [h2] at h3
      simp only [Option.getD_some] at h3 ⊢
      rw [if_neg]
      intro h0
      refine h3 ⟨?_, h0⟩
      exact absurd h0 (by
        have : ∀ l : List Int, hurtRF c t l = some x → x.2 ≠ 0 := by
          intro l
          induction l with
          | nil => intro h; cases h
          | cons i l ih =>
            unfold hurtRF
            split
            · exact ih
            · rename_i hz; intro h; cases h; exact hz
        exact this _ h2)
  · rfl
/-! ## Eyes and rooms -/
def eyesR (c : Cd) (t : Tr) : (Int × Int) × Int := if checkR c (trR c t) = 0 then (if (eyesOf c t).2 < (eyesOf c t).1 then ((0, 0), 4) else (eyesOf c t, 0)) else ((0, 0), checkR c (trR c t))
theorem eyes_same (c : Cd) (t : Tr) : eyesX c t = eyesR c t := by unfold eyesX eyesR; rw [check_one]
def roomR (c : Cd) (t : Tr) : (Int × Int) × Int := if checkR c (trR c t) = 0 then (if (roomOf c t).2 < (roomOf c t).1 then ((0, 0), 4) else (roomOf c t, 0)) else ((0, 0), checkR c (trR c t))
theorem room_same (c : Cd) (t : Tr) : roomX c t = roomR c t := by unfold roomX roomR; rw [check_one]
def depthsO (c : Cd) (w r : Int × Int) : Int × Int := (max c.p.near (w.2 / (r.2 + 1) + 1), if 0 < r.1 then min c.p.far (w.1 / r.1) else c.p.far)
def depthsR (c : Cd) (t : Tr) : (Int × Int) × Int :=
  if (roomR c t).2 = 0 then
    (if (depthsO c (powerR c.p).1 (roomR c t).1).2 < (depthsO c (powerR c.p).1 (roomR c t).1).1 then ((0, 0), 4) else (depthsO c (powerR c.p).1 (roomR c t).1, 0))
  else ((0, 0), (roomR c t).2)
theorem div_lt {a b k : Int} (hb : 0 < b) : a / b < k ↔ a < k * b := Int.ediv_lt_iff_lt_mul hb
/-- The least one above a bound, of a row of numbers. -/
theorem leastN_from {lo hi e : Int} {f : Nat → Bool} (h0 : lo ≤ hi) (hf : ∀ j : Nat, j < (hi - lo + 1).toNat → (f j = true ↔ e ≤ lo + j)) : lo + (leastN f (hi - lo + 1).toNat : Int) = min (hi + 1) (max lo e) := by
  have h : leastN f (hi - lo + 1).toNat = (min (hi + 1) (max lo e) - lo).toNat := by
    refine leastN_eq (by omega) (fun j hj => ?_) (fun h => ?_)
    · have h2 := hf j (by omega)
      cases hj2 : f j with
      | false => rfl
      | true => have := h2.1 hj2; omega
    · exact (hf _ h).2 (by omega)
  rw [h]
  omega
theorem depths_same (c : Cd) (t : Tr) : depthsX c t = depthsR c t := by
  unfold depthsX depthsR
  rw [room_same]
  split
  · rename_i h
    have h1 : checkR c (trR c t) = 0 := by
      unfold roomR at h
      split at h
      · assumption
      · exact h
    obtain ⟨hp, hb, hc, _⟩ := check_pair h1
    have hpk := isPair_ok hp
    have n1 := hpk.n1
    have n2 := hpk.n2
    have r1 : 0 ≤ (roomR c t).1.1 ∧ (roomR c t).1.1 ≤ (roomR c t).1.2 := by
      unfold roomR at h ⊢
      rw [if_pos h1] at h ⊢
      split
      · rename_i h2; rw [if_pos h2] at h; simp at h
      · rename_i h2
        refine ⟨?_, by simpa using h2⟩
        simp only [roomOf, nar]
        omega
    generalize (roomR c t).1 = r at r1 ⊢
    have hw : (powerR c.p).1 = allS c.p := by simp [powerR, openR, hp, hb]
    rw [hw]
    have w1 := allS_bd hpk
    have w2 : (allS c.p).1 ≤ (allS c.p).2 := by simpa [isB] using hb
    have hst : ∀ z, c.p.near ≤ z → z ≤ c.p.far → standsAt c.p z = ((allS c.p).1 / z, (allS c.p).2 / z) := fun z h2 h3 => by
      unfold standsAt
      rw [stands_same]
      have : within z c.p.near c.p.far = true := by simp [within, h2, h3]
      simp [standsR, openR, hp, hb, this]
    generalize allS c.p = w at hst w1 w2 ⊢
    have e1 := leastN_from (lo := c.p.near) (hi := c.p.far) (e := w.2 / (r.2 + 1) + 1) (f := fun i => decide ((standsAt c.p (c.p.near + i)).2 ≤ r.2)) n2 (fun j hj => by
      rw [hst _ (by omega) (by omega)]
      simp only [decide_eq_true_eq]
      have g1 : w.2 / (c.p.near + j) < r.2 + 1 ↔ w.2 < (r.2 + 1) * (c.p.near + j) := div_lt (by omega)
      have g2 : w.2 / (r.2 + 1) < c.p.near + j ↔ w.2 < (c.p.near + j) * (r.2 + 1) := div_lt (by omega)
      rw [Int.mul_comm] at g2
      omega)
    have hf2 : depthsOf c r = (min (c.p.far + 1) (max c.p.near (w.2 / (r.2 + 1) + 1)), (c.p.near + leastN (fun i => decide ((standsAt c.p (c.p.near + i)).1 < r.1)) (c.p.far - c.p.near + 1).toNat - 1)) := by
      unfold depthsOf
      simp only [e1]
    by_cases h0 : 0 < r.1
    · have e2 := leastN_from (lo := c.p.near) (hi := c.p.far) (e := w.1 / r.1 + 1) (f := fun i => decide ((standsAt c.p (c.p.near + i)).1 < r.1)) n2 (fun j hj => by
        rw [hst _ (by omega) (by omega)]
        simp only [decide_eq_true_eq]
        have g1 : w.1 / (c.p.near + j) < r.1 ↔ w.1 < r.1 * (c.p.near + j) := div_lt (by omega)
        have g2 : w.1 / r.1 < c.p.near + j ↔ w.1 < (c.p.near + j) * r.1 := div_lt (by omega)
        rw [Int.mul_comm] at g2
        omega)
      rw [hf2, e2]
      simp only [depthsO, if_pos h0]
      split <;> split <;> first | rfl | omega | (congr 1; congr 1 <;> omega)
    · have e2 : leastN (fun i => decide ((standsAt c.p (c.p.near + i)).1 < r.1)) (c.p.far - c.p.near + 1).toNat = (c.p.far - c.p.near + 1).toNat := by
        refine leastN_eq (Nat.le_refl _) (fun j hj => ?_) (fun h => absurd h (by omega))
        rw [hst _ (by omega) (by omega)]
        have := Int.ediv_nonneg (show 0 ≤ w.1 by omega) (show 0 ≤ c.p.near + j by omega)
        simp only [decide_eq_false_iff_not]
        omega
      rw [hf2, e2]
      simp only [depthsO, if_neg h0]
      split <;> split <;> first | rfl | omega | (congr 1; congr 1 <;> omega)
  · rfl
end Go.Pw1
