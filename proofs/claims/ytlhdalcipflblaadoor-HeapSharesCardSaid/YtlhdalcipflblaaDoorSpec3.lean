/- Layer 1 in plain words: sets of things, counted; and the fewest. -/
import Derived.Test.YtlhdalcipflblaaDoorSpec2
set_option linter.unusedSimpArgs false
set_option linter.unusedVariables false
namespace Go.Pw1
open Go Go.Eng
/-! ## Ones, counted -/
def oc1 (s : Nat) : Nat := (s >>> 1 &&& 6148914691236517205) + (s &&& 6148914691236517205)
def oc2 (s : Nat) : Nat := (oc1 s >>> 2 &&& 3689348814741910323) + (oc1 s &&& 3689348814741910323)
def oc3a (s : Nat) : Nat := oc2 s >>> 4 + oc2 s
def oc3 (s : Nat) : Nat := oc3a s &&& 1085102592571150095
def oc4 (s : Nat) : Nat := oc3 s + oc3 s >>> 8
def oc5 (s : Nat) : Nat := oc4 s + oc4 s >>> 16
def oc6 (s : Nat) : Nat := oc5 s + oc5 s >>> 32
def oc (s : Nat) : Nat := oc6 s &&& 127
theorem oc1_le (s : Nat) : oc1 s ≤ 2 * 6148914691236517205 := by have h1 := Nat.and_le_right (n := s >>> 1) (m := 6148914691236517205); have h2 := Nat.and_le_right (n := s) (m := 6148914691236517205); unfold oc1; omega
theorem oc2_le (s : Nat) : oc2 s ≤ 2 * 3689348814741910323 := by have h1 := Nat.and_le_right (n := oc1 s >>> 2) (m := 3689348814741910323); have h2 := Nat.and_le_right (n := oc1 s) (m := 3689348814741910323); unfold oc2; omega
theorem shr_le (n k : Nat) : n >>> k ≤ n / 2 ^ k := by rw [Nat.shiftRight_eq_div_pow]; exact Nat.le_refl _
theorem oc3a_le (s : Nat) : oc3a s ≤ 2 * 3689348814741910323 + 2 * 3689348814741910323 / 16 := by
  have h1 := oc2_le s
  have h2 := shr_le (oc2 s) 4
  unfold oc3a
  omega
theorem oc3_le (s : Nat) : oc3 s ≤ 1085102592571150095 := Nat.and_le_right
theorem oc4_le (s : Nat) : oc4 s ≤ 2 * 1085102592571150095 := by have h1 := oc3_le s; have h2 := Nat.shiftRight_le (oc3 s) 8; unfold oc4; omega
theorem oc5_le (s : Nat) : oc5 s ≤ 4 * 1085102592571150095 := by have h1 := oc4_le s; have h2 := Nat.shiftRight_le (oc4 s) 16; unfold oc5; omega
theorem oc6_le (s : Nat) : oc6 s ≤ 8 * 1085102592571150095 := by have h1 := oc5_le s; have h2 := Nat.shiftRight_le (oc5 s) 32; unfold oc6; omega
theorem oc_le (s : Nat) : oc s ≤ 127 := Nat.and_le_right
/-- The ones among the lowest bits. -/
def pc (s : Nat) : Nat → Nat
  | 0 => 0
  | k + 1 => pc s k + s / 2 ^ k % 2
theorem oc_all : (List.range 4096).all (fun s => oc s == pc s 12) = true := by kernel_rfl
theorem oc_eq {s : Nat} (h : s < 4096) : oc s = pc s 12 := by
  have := List.all_eq_true.1 oc_all s (List.mem_range.2 h)
  simpa using this
/-- The things that move, at a power. -/
def movedK (p : Pr) (x : Int) : Nat → Nat
  | 0 => 0
  | k + 1 => if (stillS p (thingAt p k) (x, x)).2 then movedK p x k else movedK p x k ||| 2 ^ k
def movedS (p : Pr) (x : Int) : Nat := movedK p x p.things.length
theorem movedK_lt (p : Pr) (x : Int) : ∀ k, movedK p x k < 2 ^ k
  | 0 => by simp [movedK]
  | k + 1 => by
    have h := movedK_lt p x k
    have h2 : 2 ^ k < 2 ^ (k + 1) := by rw [Nat.pow_succ]; have := Nat.two_pow_pos k; omega
    unfold movedK
    split
    · omega
    · exact Nat.or_lt_two_pow (by omega) h2
theorem movedS_lt {p : Pr} (hp : p.Ok) (x : Int) : movedS p x < 4096 := by
  have h := movedK_lt p x p.things.length
  have h2 : 2 ^ p.things.length ≤ 2 ^ 12 := Nat.pow_le_pow_right (by omega) hp.len
  unfold movedS
  omega
theorem movedK_lt4 {p : Pr} (hp : p.Ok) (x : Int) {k : Nat} (hk : k ≤ p.things.length) : movedK p x k < 4096 := by
  have h := movedK_lt p x k
  have h0 := hp.len
  have h2 : 2 ^ k ≤ 2 ^ 12 := Nat.pow_le_pow_right (by omega) (by omega)
  omega
theorem movedK_yes {p : Pr} {x : Int} {k : Nat} {t : Th} (ht : thingAt p k = t) (h : (stillS p t (x, x)).2 = true) : movedK p x (k + 1) = movedK p x k := by simp [movedK, ht, h]
theorem movedK_no {p : Pr} {x : Int} {k : Nat} {t : Th} (ht : thingAt p k = t) (h : (stillS p t (x, x)).2 = false) : movedK p x (k + 1) = movedK p x k ||| 2 ^ k := by simp [movedK, ht, h]
/-- The powers that are tried. -/
def triedK (p : Pr) (pw : Int × Int) : Nat → List Int
  | 0 => [pw.1]
  | k + 1 => if (stillS p (thingAt p k) pw).2 then triedK p pw k ++ [(stillS p (thingAt p k) pw).1.1] else triedK p pw k
def triedS (p : Pr) (pw : Int × Int) : List Int := triedK p pw p.things.length
theorem triedK_len (p : Pr) (pw : Int × Int) : ∀ k, (triedK p pw k).length ≤ k + 1
  | 0 => by simp [triedK]
  | k + 1 => by
    have := triedK_len p pw k
    unfold triedK
    split <;> (try simp only [List.length_append, List.length_singleton]) <;> omega
theorem triedK_yes {p : Pr} {pw : Int × Int} {k : Nat} {t : Th} (ht : thingAt p k = t) (h : (stillS p t pw).2 = true) : triedK p pw (k + 1) = triedK p pw k ++ [(stillS p t pw).1.1] := by simp [triedK, ht, h]
theorem triedK_no {p : Pr} {pw : Int × Int} {k : Nat} {t : Th} (ht : thingAt p k = t) (h : (stillS p t pw).2 = false) : triedK p pw (k + 1) = triedK p pw k := by simp [triedK, ht, h]
/-- The order of ranks; the least of some. -/
def befS (s u : Nat) : Bool := decide (pc s 12 < pc u 12) || (decide (pc s 12 = pc u 12) && decide (s < u))
def better (best s : Nat) : Nat := if s ≠ best ∧ befS best s = false then s else best
theorem better_yes {b s : Nat} (h : (¬((pc s 12 : Nat) : Int) = ((pc b 12 : Nat) : Int) ∨ ¬(s : Int) = (b : Int)) ∧ befS b s = false) : better b s = s := by
  have h1 : s ≠ b := by rintro rfl; simp at h
  unfold better
  rw [if_pos ⟨h1, h.2⟩]
theorem better_no {b s : Nat} (h : (((pc s 12 : Nat) : Int) = ((pc b 12 : Nat) : Int) ∧ (s : Int) = (b : Int)) ∨ befS b s = true) : better b s = b := by
  unfold better
  split
  · rename_i h2
    rcases h with h | h
    · omega
    · rw [h2.2] at h; cases h
  · rfl
def bestL (p : Pr) (s0 : Nat) (l : List Int) : Nat := l.foldl (fun best x => better best (movedS p x)) s0
theorem bestL_snoc (p : Pr) (s0 : Nat) (l : List Int) (x : Int) : bestL p s0 (l ++ [x]) = better (bestL p s0 l) (movedS p x) := by simp [bestL, List.foldl_append]
theorem bestL_lt {p : Pr} (hp : p.Ok) {s0 : Nat} (h : s0 < 4096) (l : List Int) : bestL p s0 l < 4096 := by
  induction l generalizing s0 with
  | nil => exact h
  | cons x l ih =>
    show bestL p (better s0 (movedS p x)) l < 4096
    refine ih ?_
    unfold better
    split
    · exact movedS_lt hp x
    · exact h
/-- The powers with which all still ones stand still. -/
def nbK (p : Pr) (s : Nat) (w : Int × Int) : Nat → Int × Int
  | 0 => w
  | k + 1 => if s >>> k &&& 1 = 0 then (stillS p (thingAt p k) (nbK p s w k)).1 else nbK p s w k
theorem nbK_in {p : Pr} {s : Nat} {w : Int × Int} {k : Nat} {t : Th} (ht : thingAt p k = t) (h : ((s >>> k &&& 1 : Nat) : Int) = 0) : nbK p s w (k + 1) = (stillS p t (nbK p s w k)).1 := by
  have h2 : s >>> k &&& 1 = 0 := by exact_mod_cast h
  simp only [nbK, h2, if_true, ht]
theorem nbK_out {p : Pr} {s : Nat} {w : Int × Int} {k : Nat} (h : ¬ ((s >>> k &&& 1 : Nat) : Int) = 0) : nbK p s w (k + 1) = nbK p s w k := by
  have h2 : ¬ s >>> k &&& 1 = 0 := fun e => h (by exact_mod_cast e)
  rw [nbK, if_neg h2]
def bestS (p : Pr) (w : Int × Int) : Nat := bestL p (movedS p w.1) (triedS p w)
def fewestX (p : Pr) : Int × (Int × Int) × Int :=
  match truthsX p [] with
  | .error k => (0, (0, 0), k)
  | .ok w => (bestS p w, nbK p (bestS p w) w p.things.length, 0)
end Go.Pw1
