/- Layer 3, plain facts for MountDepths. -/
import Derived.Test.YthoheicppmbepaaMo
import Derived.Test.YthoheicppmbepaaMg
set_option linter.unusedSimpArgs false
set_option linter.unusedVariables false
namespace Go.Pw1
open Go Go.Eng
theorem room_ok {c : Cd} {t : Tr} (h : (roomX c t).2 = 0) : openM c [t] = 0 ∧ (roomX c t).1 = roomOf c t ∧ (roomOf c t).1 ≤ (roomOf c t).2 := by
  unfold roomX at *
  by_cases h0 : openM c [t] = 0
  · simp only [h0, if_true] at h ⊢
    split
    · rename_i h2; rw [if_pos h2] at h; simp at h
    · rename_i h2; exact ⟨trivial, rfl, Int.not_lt.1 h2⟩
  · rw [if_neg h0] at h; exact absurd h h0
theorem room_err {c : Cd} {t : Tr} (h : (roomX c t).2 ≠ 0) : (roomX c t).1 = (0, 0) ∧ depthsX c t = ((0, 0), (roomX c t).2) ∧ ((roomX c t).2 = 4 ∨ ((hurtsX c t).2.2 = (roomX c t).2 ∧ (hurtsX c t).1 = 0 ∧ (hurtsX c t).2.1 = 0)) := by
  have hd : depthsX c t = ((0, 0), (roomX c t).2) := by unfold depthsX; rw [if_neg h]
  refine ⟨?_, hd, ?_⟩
  · unfold roomX at *
    by_cases h0 : openM c [t] = 0
    · simp only [h0, if_true] at h ⊢
      split
      · rfl
      · rename_i h2; rw [if_neg h2] at h; exact absurd rfl h
    · rw [if_neg h0]
  · unfold roomX hurtsX at *
    by_cases h0 : openM c [t] = 0
    · simp only [h0, if_true] at h ⊢
      split
      · exact .inl rfl
      · rename_i h2; rw [if_neg h2] at h; exact absurd rfl h
    · simp [h0]
theorem roomOf_in (c : Cd) (t : Tr) : 0 ≤ (roomOf c t).1 ∧ (roomOf c t).2 ≤ 2000 := by
  simp only [roomOf, nar]; omega
theorem depths_or {c : Cd} {t : Tr} (h : (roomX c t).2 = 0) : ((depthsX c t).2 = 0 ∧ (depthsX c t).1 = depthsOf c (roomOf c t) ∧ (depthsOf c (roomOf c t)).1 ≤ (depthsOf c (roomOf c t)).2) ∨ ((depthsX c t).2 = 4 ∧ (depthsX c t).1 = (0, 0) ∧ (depthsOf c (roomOf c t)).2 < (depthsOf c (roomOf c t)).1) := by
  obtain ⟨_, h1, _⟩ := room_ok h
  unfold depthsX
  rw [if_pos h, h1]
  split
  · rename_i h2; exact .inr ⟨rfl, rfl, h2⟩
  · rename_i h2; exact .inl ⟨rfl, rfl, Int.not_lt.1 h2⟩
theorem leastN_iff {f : Nat → Bool} {n i : Nat} (hi : i < n) (hmono : ∀ i j, i ≤ j → j < n → f i = true → f j = true) : leastN f n ≤ i ↔ f i = true := by
  constructor
  · intro h
    exact hmono _ _ h hi (leastN_is f n (by omega))
  · intro h
    rcases Nat.lt_or_ge i (leastN f n) with h2 | h2
    · rw [leastN_not f n i h2] at h; cases h
    · exact h2
theorem depths_in {c : Cd} (hp : isPair c.p = true) (hb : isB (allS c.p) = true) (r : Int × Int) {z : Int} (h1 : c.p.near ≤ z) (h2 : z ≤ c.p.far) : ((depthsOf c r).1 ≤ z ∧ z ≤ (depthsOf c r).2) ↔ (r.1 ≤ (standsAt c.p z).1 ∧ (standsAt c.p z).2 ≤ r.2) := by
  obtain ⟨i, rfl⟩ : ∃ i : Nat, z = c.p.near + i := ⟨(z - c.p.near).toNat, by omega⟩
  have e1 := leastN_iff (f := fun i : Nat => decide ((standsAt c.p (c.p.near + i)).2 ≤ r.2)) (n := (c.p.far - c.p.near + 1).toNat) (i := i) (by omega) (fun a b hab hb2 h => by
    have := stands_anti hp hb (z := c.p.near + a) (z' := c.p.near + b) (by omega) (by omega) (by omega)
    simp only [decide_eq_true_eq] at h ⊢
    omega)
  have e2 := leastN_iff (f := fun i : Nat => decide ((standsAt c.p (c.p.near + i)).1 < r.1)) (n := (c.p.far - c.p.near + 1).toNat) (i := i) (by omega) (fun a b hab hb2 h => by
    have := stands_anti hp hb (z := c.p.near + a) (z' := c.p.near + b) (by omega) (by omega) (by omega)
    simp only [decide_eq_true_eq] at h ⊢
    omega)
  simp only [decide_eq_true_eq] at e1 e2
  simp only [depthsOf]
  omega
theorem depthsOf_rng (c : Cd) (h : c.p.near ≤ c.p.far) (r : Int × Int) : c.p.near ≤ (depthsOf c r).1 ∧ (depthsOf c r).1 ≤ c.p.far + 1 ∧ c.p.near - 1 ≤ (depthsOf c r).2 ∧ (depthsOf c r).2 ≤ c.p.far := by
  have h1 := leastN_le (fun i : Nat => decide ((standsAt c.p (c.p.near + i)).2 ≤ r.2)) (c.p.far - c.p.near + 1).toNat
  have h2 := leastN_le (fun i : Nat => decide ((standsAt c.p (c.p.near + i)).1 < r.1)) (c.p.far - c.p.near + 1).toNat
  simp only [depthsOf]
  omega
/-- With why a thing hurts, where its shifts are. -/
theorem why_room {c : Cd} {t : Tr} {i : Int} (h : whyM c t i ≠ 0) :
    (whyM c t i = 5 ∧ (roomOf c t).1 ≤ max 0 (shiftX c.p i).1.1 ∧ min 2000 (shiftX c.p i).1.2 ≤ (roomOf c t).2) ∨ (whyM c t i ≠ 5 ∧ ¬ ((roomOf c t).1 ≤ (shiftX c.p i).1.1 ∧ (shiftX c.p i).1.2 ≤ (roomOf c t).2)) := by
  revert h
  unfold whyM hurtL
  generalize (shiftX c.p i).1 = s
  simp only [roomOf, nar]
  by_cases h1 : apartM c t - s.2 < c.eyes.hi - c.squeeze
  · intro _; right; refine ⟨by simp [idxF, h1], ?_⟩; omega
  · by_cases h2 : c.eyes.lo + c.prism < apartM c t - s.1
    · intro _; right; refine ⟨by simp [idxF, h1, h2], ?_⟩; omega
    · by_cases h3 : windowM c t + c.front < s.2
      · intro _; right; refine ⟨by simp [idxF, h1, h2, h3], ?_⟩; omega
      · by_cases h4 : s.1 < windowM c t - c.deep
        · intro _; right; refine ⟨by simp [idxF, h1, h2, h3, h4], ?_⟩; omega
        · by_cases h5 : offM c t (thingAt c.p i) = true
          · intro _; left; refine ⟨by simp [idxF, h1, h2, h3, h4, h5], ?_, ?_⟩ <;> omega
          · intro h; simp [idxF, h1, h2, h3, h4, h5] at h
theorem stands_ok {p : Pr} (hp : isPair p = true) (hb : isB (allS p) = true) {z : Int} (h1 : p.near ≤ z) (h2 : z ≤ p.far) : (standsX p z).2 = 0 := by
  rw [stands_same]
  have : within z p.near p.far = true := by simp [within, h1, h2]
  simp [standsR, openR, hp, hb, this]
end Go.Pw1
