/- Layer 1 in plain words: the reference's Fewest. -/
import Derived.Test.YthppnhjggdebbaaSame
set_option linter.unusedSimpArgs false
set_option linter.unusedVariables false
namespace Go.Pw1
open Go Go.Eng
def hasR (s i : Nat) : Bool := decide (s / 2 ^ i % 2 = 1)
def withK (p : Pr) (s : Nat) : Nat → Int × Int
  | 0 => allS p
  | k + 1 => if hasR s k then withK p s k else nar (withK p s k) (powersR p (thingAt p k))
theorem withK_in {p : Pr} {s k : Nat} {t : Th} (ht : thingAt p k = t) (h : hasR s k = false) : withK p s (k + 1) = nar (withK p s k) (powersR p t) := by simp [withK, h, ht]
theorem withK_out {p : Pr} {s k : Nat} (h : hasR s k = true) : withK p s (k + 1) = withK p s k := by simp [withK, h]
theorem lt12 {s k : Nat} (hs : s < 4096) (h : 0 < ((s / 2 ^ k : Nat) : Int)) : k < 12 := by
  rcases Nat.lt_or_ge k 12 with h1 | h1
  · exact h1
  · have h2 : 2 ^ 12 ≤ 2 ^ k := Nat.pow_le_pow_right (by omega) h1
    have h3 : s / 2 ^ k = 0 := Nat.div_eq_of_lt (by omega)
    rw [h3] at h; simp at h
theorem pc_done {s k : Nat} (h : s / 2 ^ k = 0) : ∀ j, pc s (k + j) = pc s k
  | 0 => rfl
  | j + 1 => by
    have h2 : s / 2 ^ (k + j) = 0 := by rw [Nat.pow_add, ← Nat.div_div_eq_div_mul, h]; simp
    show pc s (k + j) + s / 2 ^ (k + j) % 2 = _
    rw [h2, pc_done h j]; simp
theorem pc_le (s : Nat) : ∀ k, pc s k ≤ k
  | 0 => Nat.le_refl _
  | k + 1 => by have := pc_le s k; show pc s k + _ ≤ _; omega
def rbestK (p : Pr) : Nat → Int
  | 0 => -1
  | k + 1 => if isB (withK p k p.things.length) = true ∧ (rbestK p k < 0 ∨ pc k 12 < pc (rbestK p k).toNat 12) then (k : Int) else rbestK p k
theorem rbestK_rng (p : Pr) : ∀ k, -1 ≤ rbestK p k ∧ rbestK p k < (k : Int) + 1 ∧ (rbestK p k = -1 ∨ rbestK p k < k)
  | 0 => by simp [rbestK]
  | k + 1 => by
    have := rbestK_rng p k
    unfold rbestK
    split <;> omega
theorem rbestK_yes {p : Pr} {k : Nat} (h : isB (withK p k p.things.length) = true) (h2 : rbestK p k < 0 ∨ pc k 12 < pc (rbestK p k).toNat 12) : rbestK p (k + 1) = k := by simp [rbestK, h, h2]
theorem rbestK_no {p : Pr} {k : Nat} (h : ¬ (isB (withK p k p.things.length) = true ∧ (rbestK p k < 0 ∨ pc k 12 < pc (rbestK p k).toNat 12))) : rbestK p (k + 1) = rbestK p k := by rw [rbestK, if_neg h]
def rfewX (p : Pr) : Int × (Int × Int) × Int :=
  let s := openR p true
  if s.2 ≠ 0 then (0, (0, 0), s.2) else
  let m := rbestK p (2 ^ p.things.length)
  (m, withK p m.toNat p.things.length, 0)
end Go.Pw1
