/- Layer 1, the plain law of Fewest: the package's best set is the reference's. -/
import Derived.Test.YthppnhjggdebbaaSpec4
set_option linter.unusedSimpArgs false
set_option linter.unusedVariables false
namespace Go.Pw1
open Go Go.Eng
/-- A number within bounds. -/
def InB (x : Int) (b : Int × Int) : Prop := b.1 ≤ x ∧ x ≤ b.2
theorem inB_nar {x : Int} {a b : Int × Int} : InB x (nar a b) ↔ InB x a ∧ InB x b := by simp only [InB, nar]; omega
theorem isB_iff {b : Int × Int} : isB b = true ↔ InB b.1 b := by simp only [isB, InB, decide_eq_true_eq]; omega
theorem isB_of {b : Int × Int} {x : Int} (h : InB x b) : isB b = true := by simp only [isB, InB, decide_eq_true_eq] at *; omega
theorem hasR_bit (s i : Nat) : hasR s i = s.testBit i := by
  unfold hasR
  rw [Nat.testBit_eq_decide_div_mod_eq]
theorem with_in {p : Pr} {s : Nat} {x : Int} : ∀ k, InB x (withK p s k) ↔ InB x (allS p) ∧ ∀ i, i < k → s.testBit i = false → InB x (powersR p (thingAt p i))
  | 0 => by simp [withK]
  | k + 1 => by
    have ih := with_in (p := p) (s := s) (x := x) k
    unfold withK
    rw [hasR_bit]
    cases hb : s.testBit k with
    | true =>
      simp only [if_true, ih]
      exact ⟨fun ⟨h1, h2⟩ => ⟨h1, fun i hi hs => h2 i (by rcases Nat.lt_succ_iff_lt_or_eq.1 hi with h | rfl; exact h; rw [hb] at hs; cases hs) hs⟩, fun ⟨h1, h2⟩ => ⟨h1, fun i hi hs => h2 i (by omega) hs⟩⟩
    | false =>
      simp only [Bool.false_eq_true, if_false, inB_nar, ih]
      exact ⟨fun ⟨⟨h1, h2⟩, h3⟩ => ⟨h1, fun i hi hs => by rcases Nat.lt_succ_iff_lt_or_eq.1 hi with h | rfl; exact h2 i h hs; exact h3⟩, fun ⟨h1, h2⟩ => ⟨⟨h1, fun i hi hs => h2 i (by omega) hs⟩, h2 k (by omega) hb⟩⟩
theorem with_lo (p : Pr) (s : Nat) : ∀ k, (allS p).1 ≤ (withK p s k).1 ∧ ((withK p s k).1 = (allS p).1 ∨ ∃ i, i < k ∧ s.testBit i = false ∧ (withK p s k).1 = max (allS p).1 (powersR p (thingAt p i)).1)
  | 0 => by simp [withK]
  | k + 1 => by
    obtain ⟨h0, ih⟩ := with_lo p s k
    unfold withK
    rw [hasR_bit]
    cases hb : s.testBit k with
    | true =>
      simp only [if_true]
      refine ⟨h0, ?_⟩
      rcases ih with h | ⟨i, hi, hs, h⟩
      · exact .inl h
      · exact .inr ⟨i, by omega, hs, h⟩
    | false =>
      simp only [Bool.false_eq_true, if_false, nar]
      refine ⟨by omega, ?_⟩
      by_cases hc : (powersR p (thingAt p k)).1 ≤ (withK p s k).1
      · rw [Int.max_eq_left hc]
        rcases ih with h | ⟨i, hi, hs, h⟩
        · exact .inl h
        · exact .inr ⟨i, by omega, hs, h⟩
      · exact .inr ⟨k, by omega, hb, by omega⟩
theorem still_at (p : Pr) (t : Th) (x : Int) : (stillS p t (x, x)).2 = true ↔ InB x (powersR p t) := by
  rw [still_eq, isB, decide_eq_true_eq]
  simp only [InB, nar]
  constructor
  · intro h; omega
  · intro h; omega
theorem moved_bit (p : Pr) (x : Int) : ∀ k i, (movedK p x k).testBit i = (decide (i < k) && !(stillS p (thingAt p i) (x, x)).2)
  | 0, i => by simp [movedK]
  | k + 1, i => by
    have ih := moved_bit p x k i
    unfold movedK
    cases hs : (stillS p (thingAt p k) (x, x)).2 with
    | true =>
      simp only [if_true, ih]
      by_cases h : i = k
      · subst h; simp [hs]
      · rw [show decide (i < k + 1) = decide (i < k) from decide_eq_decide.2 (by omega)]
    | false =>
      simp only [Bool.false_eq_true, if_false, Nat.testBit_or, ih, Nat.testBit_two_pow]
      by_cases h : i = k
      · subst h; simp [hs]
      · rw [show decide (i < k + 1) = decide (i < k) from decide_eq_decide.2 (by omega), decide_eq_false (p := k = i) (fun e => h e.symm), Bool.or_false]
theorem pc_mono {a b : Nat} (h : ∀ i, a.testBit i = true → b.testBit i = true) : ∀ k, pc a k ≤ pc b k
  | 0 => Nat.le_refl _
  | k + 1 => by
    have ih := pc_mono h k
    have h1 := h k
    rw [Nat.testBit_eq_decide_div_mod_eq, Nat.testBit_eq_decide_div_mod_eq, decide_eq_true_eq, decide_eq_true_eq] at h1
    show pc a k + a / 2 ^ k % 2 ≤ pc b k + b / 2 ^ k % 2
    generalize a / 2 ^ k = u at *
    generalize b / 2 ^ k = v at *
    omega
theorem le_of_bits {a b : Nat} (h : ∀ i, a.testBit i = true → b.testBit i = true) : a ≤ b := by
  have : a &&& b = a := by
    apply Nat.eq_of_testBit_eq
    intro i
    rw [Nat.testBit_and]
    cases ha : a.testBit i with
    | false => rfl
    | true => rw [h i ha]; rfl
  rw [← this]
  exact Nat.and_le_right
/-- The order of sets: by how many they are, then by number. -/
def Le (s u : Nat) : Prop := pc s 12 < pc u 12 ∨ (pc s 12 = pc u 12 ∧ s ≤ u)
theorem Le.refl (s : Nat) : Le s s := .inr ⟨rfl, Nat.le_refl _⟩
theorem Le.trans {a b c : Nat} (h : Le a b) (h2 : Le b c) : Le a c := by unfold Le at *; omega
theorem Le.eq {a b : Nat} (h : Le a b) (h2 : Le b a) : a = b := by unfold Le at *; omega
theorem Le.total (a b : Nat) : Le a b ∨ Le b a := by unfold Le; omega
theorem better_le (b s : Nat) : Le (better b s) b ∧ Le (better b s) s ∧ (better b s = b ∨ better b s = s) := by
  unfold better befS
  split
  · rename_i h
    obtain ⟨h1, h2⟩ := h
    rw [Bool.or_eq_false_iff, Bool.and_eq_false_iff, decide_eq_false_iff_not, decide_eq_false_iff_not, decide_eq_false_iff_not] at h2
    refine ⟨?_, .refl s, .inr rfl⟩
    unfold Le; omega
  · rename_i h
    refine ⟨.refl b, ?_, .inl rfl⟩
    rw [Bool.or_eq_false_iff, Bool.and_eq_false_iff, decide_eq_false_iff_not, decide_eq_false_iff_not, decide_eq_false_iff_not] at h
    by_cases hsb : s = b
    · subst hsb; exact .refl s
    · have h2 := fun hh => h ⟨hsb, hh⟩
      unfold Le; omega
theorem bestL_le (p : Pr) : ∀ (l : List Int) (s0 : Nat), Le (bestL p s0 l) s0 ∧ (∀ x ∈ l, Le (bestL p s0 l) (movedS p x)) ∧ (bestL p s0 l = s0 ∨ ∃ x ∈ l, bestL p s0 l = movedS p x)
  | [], s0 => ⟨.refl _, fun _ h => by simp at h, .inl rfl⟩
  | x :: l, s0 => by
    obtain ⟨h1, h2, h3⟩ := bestL_le p l (better s0 (movedS p x))
    obtain ⟨b1, b2, b3⟩ := better_le s0 (movedS p x)
    rw [show bestL p s0 (x :: l) = bestL p (better s0 (movedS p x)) l from rfl]
    refine ⟨h1.trans b1, fun y hy => ?_, ?_⟩
    · rcases List.mem_cons.1 hy with rfl | hy
      · exact h1.trans b2
      · exact h2 y hy
    · rcases h3 with h3 | ⟨y, hy, h3⟩
      · rcases b3 with b3 | b3
        · exact .inl (h3.trans b3)
        · exact .inr ⟨x, by simp, h3.trans b3⟩
      · exact .inr ⟨y, by simp [hy], h3⟩
theorem tried_mem (p : Pr) (pw : Int × Int) : ∀ k x, x ∈ triedK p pw k ↔ x = pw.1 ∨ ∃ i, i < k ∧ (stillS p (thingAt p i) pw).2 = true ∧ x = (stillS p (thingAt p i) pw).1.1
  | 0, x => by simp [triedK]
  | k + 1, x => by
    have ih := tried_mem p pw k x
    unfold triedK
    split
    · rename_i hs
      simp only [List.mem_append, List.mem_singleton, ih]
      constructor
      · rintro ((h | ⟨i, hi, h⟩) | h)
        · exact .inl h
        · exact .inr ⟨i, by omega, h⟩
        · exact .inr ⟨k, by omega, hs, h⟩
      · rintro (h | ⟨i, hi, h1, h2⟩)
        · exact .inl (.inl h)
        · rcases Nat.lt_succ_iff_lt_or_eq.1 hi with h | rfl
          · exact .inl (.inr ⟨i, h, h1, h2⟩)
          · exact .inr h2
    · rename_i hs
      rw [ih]
      constructor
      · rintro (h | ⟨i, hi, h⟩)
        · exact .inl h
        · exact .inr ⟨i, by omega, h⟩
      · rintro (h | ⟨i, hi, h1, h2⟩)
        · exact .inl h
        · rcases Nat.lt_succ_iff_lt_or_eq.1 hi with h | rfl
          · exact .inr ⟨i, h, h1, h2⟩
          · exact absurd h1 hs
/-- A set that explains all: the powers with which the others stand still are some. -/
def Good (p : Pr) (s : Nat) : Prop := isB (withK p s p.things.length) = true
theorem still_at_false {p : Pr} {t : Th} {x : Int} (h : (stillS p t (x, x)).2 = false) : ¬ InB x (powersR p t) := fun hi => by rw [(still_at p t x).2 hi] at h; cases h
theorem moved_in {p : Pr} {x : Int} (hx : InB x (allS p)) : InB x (withK p (movedS p x) p.things.length) := by
  rw [with_in]
  refine ⟨hx, fun i hi hb => ?_⟩
  unfold movedS at hb
  rw [moved_bit, decide_eq_true hi, Bool.true_and, Bool.not_eq_false'] at hb
  exact (still_at p _ x).1 hb
theorem moved_good {p : Pr} {x : Int} (hx : InB x (allS p)) : Good p (movedS p x) := isB_of (moved_in hx)
theorem tried_all {p : Pr} (h : isB (allS p) = true) {x : Int} (hx : x ∈ triedS p (allS p)) : InB x (allS p) := by
  rcases (tried_mem p _ _ x).1 hx with rfl | ⟨i, hi, hs, rfl⟩
  · exact isB_iff.1 h
  · have h1 := still_nar hs
    rw [still_eq] at hs
    rw [h1]
    exact (inB_nar.1 (isB_iff.1 hs)).1
theorem good_below {p : Pr} {s : Nat} (hg : Good p s) : ∃ x, x ∈ triedS p (allS p) ∧ (∀ i, (movedS p x).testBit i = true → s.testBit i = true) := by
  have hin := isB_iff.1 hg
  refine ⟨(withK p s p.things.length).1, ?_, fun i hi => ?_⟩
  · refine (tried_mem p _ _ _).2 ?_
    obtain ⟨h0, h | ⟨i, hi, hs, h⟩⟩ := with_lo p s p.things.length
    · exact .inl h
    · refine .inr ⟨i, hi, ?_, ?_⟩
      · rw [still_eq]
        exact isB_of (inB_nar.2 ⟨((with_in _).1 hin).1, ((with_in _).1 hin).2 i hi hs⟩)
      · have hst : (stillS p (thingAt p i) (allS p)).2 = true := by
          rw [still_eq]
          exact isB_of (inB_nar.2 ⟨((with_in _).1 hin).1, ((with_in _).1 hin).2 i hi hs⟩)
        rw [still_nar hst]
        exact h
  · unfold movedS at hi
    rw [moved_bit, Bool.and_eq_true, decide_eq_true_eq, Bool.not_eq_true'] at hi
    cases hs : s.testBit i with
    | true => rfl
    | false => exact absurd (((with_in _).1 hin).2 i hi.1 hs) (still_at_false hi.2)
theorem good_le {p : Pr} {s : Nat} (hg : Good p s) : Le (bestS p (allS p)) s := by
  obtain ⟨x, hx, hb⟩ := good_below hg
  obtain ⟨_, h2, _⟩ := bestL_le p (triedS p (allS p)) (movedS p (allS p).1)
  refine (h2 x hx).trans ?_
  have h3 := pc_mono hb 12
  have h4 := le_of_bits hb
  unfold Le; omega
theorem best_good {p : Pr} (h : isB (allS p) = true) : Good p (bestS p (allS p)) ∧ bestS p (allS p) < 2 ^ p.things.length := by
  obtain ⟨_, _, h3 | ⟨x, hx, h3⟩⟩ := bestL_le p (triedS p (allS p)) (movedS p (allS p).1)
  · rw [show bestS p (allS p) = movedS p (allS p).1 from h3]
    exact ⟨moved_good (isB_iff.1 h), movedK_lt p _ _⟩
  · rw [show bestS p (allS p) = movedS p x from h3]
    exact ⟨moved_good (tried_all h hx), movedK_lt p _ _⟩
theorem rbest_is (p : Pr) : ∀ K, (rbestK p K = -1 ∧ ∀ k, k < K → ¬ Good p k) ∨ ∃ r : Nat, rbestK p K = r ∧ r < K ∧ Good p r ∧ ∀ k, k < K → Good p k → Le r k
  | 0 => .inl ⟨rfl, fun k h => by omega⟩
  | K + 1 => by
    rcases rbest_is p K with ⟨h1, h2⟩ | ⟨r, h1, h2, h3, h4⟩
    · by_cases hg : Good p K
      · right
        refine ⟨K, rbestK_yes hg (.inl (by omega)), by omega, hg, fun k hk hgk => ?_⟩
        rcases Nat.lt_succ_iff_lt_or_eq.1 hk with h | rfl
        · exact absurd hgk (h2 k h)
        · exact .refl _
      · left
        refine ⟨by rw [rbestK_no (fun h => hg h.1)]; exact h1, fun k hk => ?_⟩
        rcases Nat.lt_succ_iff_lt_or_eq.1 hk with h | rfl
        · exact h2 k h
        · exact hg
    · right
      by_cases hc : Good p K ∧ pc K 12 < pc r 12
      · refine ⟨K, rbestK_yes hc.1 (.inr (by rw [h1]; exact hc.2)), by omega, hc.1, fun k hk hgk => ?_⟩
        rcases Nat.lt_succ_iff_lt_or_eq.1 hk with h | rfl
        · exact Le.trans (.inl hc.2) (h4 k h hgk)
        · exact .refl _
      · refine ⟨r, ?_, by omega, h3, fun k hk hgk => ?_⟩
        · rw [rbestK_no (fun h => hc ⟨h.1, ?_⟩)]
          · exact h1
          · rcases h.2 with h | h
            · rw [h1] at h; omega
            · rw [h1] at h; exact h
        · rcases Nat.lt_succ_iff_lt_or_eq.1 hk with h | rfl
          · exact h4 k h hgk
          · have : ¬ pc k 12 < pc r 12 := fun h => hc ⟨hgk, h⟩
            unfold Le; omega
theorem rbest_eq {p : Pr} (h : isB (allS p) = true) : rbestK p (2 ^ p.things.length) = (bestS p (allS p) : Int) := by
  obtain ⟨g1, g2⟩ := best_good h
  rcases rbest_is p (2 ^ p.things.length) with ⟨_, h2⟩ | ⟨r, h1, h2, h3, h4⟩
  · exact absurd g1 (h2 _ g2)
  · rw [h1, Le.eq (h4 _ g2 g1) (good_le h3)]
theorem rbest_ge {p : Pr} (h : isB (allS p) = true) : 0 ≤ rbestK p (2 ^ p.things.length) := by rw [rbest_eq h]; omega
theorem nb_with {p : Pr} {s : Nat} : ∀ k, isB (withK p s k) = true → nbK p s (allS p) k = withK p s k
  | 0, _ => rfl
  | k + 1, h => by
    have hin := isB_iff.1 h
    have hk : InB (withK p s (k + 1)).1 (withK p s k) := (with_in k).2 ⟨((with_in (k + 1)).1 hin).1, fun i hi => ((with_in (k + 1)).1 hin).2 i (by omega)⟩
    have ih := nb_with k (isB_of hk)
    have hbit : (s >>> k &&& 1 = 0) = (s.testBit k = false) := by
      rw [Nat.testBit, Nat.and_comm]; simp
    unfold nbK withK
    rw [ih, hasR_bit]
    cases hb : s.testBit k with
    | true =>
      rw [if_neg (by rw [hbit, hb]; simp)]; rfl
    | false =>
      rw [if_pos (by rw [hbit, hb])]
      have hR := ((with_in (k + 1)).1 hin).2 k (by omega) hb
      have hst : (stillS p (thingAt p k) (withK p s k)).2 = true := by rw [still_eq]; exact isB_of (inB_nar.2 ⟨hk, hR⟩)
      exact still_nar hst
theorem truthsX_nil (p : Pr) : truthsX p [] = if isPair p then (if isB (allS p) then .ok (allS p) else .error 4) else .error 1 := truthsX_eq p [] (openX_nil p)
theorem few_same (p : Pr) : fewestX p = rfewX p := by
  unfold fewestX rfewX openR
  rw [truthsX_nil]
  cases isPair p with
  | false => simp
  | true =>
    cases h : isB (allS p) with
    | false => simp
    | true =>
      simp only [if_true, ne_eq, not_true_eq_false, if_false]
      rw [rbest_eq h]
      simp only [Int.toNat_natCast]
      rw [nb_with _ (best_good h).1]
end Go.Pw1
