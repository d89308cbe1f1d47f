/- Layer 1, plain facts for the law on the fewest things that moved. -/
import Derived.Test.YthppnhjggdebbaaFacts4
import Derived.Test.YthppnhjggdebbaaMore3
set_option linter.unusedSimpArgs false
set_option linter.unusedVariables false
namespace Go.Pw1
open Go Go.Eng
/-- The things that are not in a set. -/
def keepL (p : Pr) (s : Nat) : Nat → List Th
  | 0 => []
  | k + 1 => if s.testBit k then keepL p s k else keepL p s k ++ [thingAt p k]
def woP (p : Pr) (s : Nat) : Pr := { p with things := keepL p s p.things.length }
theorem keepL_len (p : Pr) (s : Nat) : ∀ k, (keepL p s k).length ≤ k
  | 0 => Nat.le_refl _
  | k + 1 => by
    have := keepL_len p s k
    unfold keepL
    split
    · omega
    · simp only [List.length_append, List.length_singleton]; omega
theorem keepL_mem {p : Pr} {s : Nat} {t : Th} : ∀ k, t ∈ keepL p s k ↔ ∃ i, i < k ∧ s.testBit i = false ∧ t = thingAt p i
  | 0 => by simp [keepL]
  | k + 1 => by
    have ih := keepL_mem (p := p) (s := s) (t := t) k
    unfold keepL
    cases hb : s.testBit k with
    | true =>
      simp only [if_true, ih]
      constructor
      · rintro ⟨i, hi, h⟩; exact ⟨i, by omega, h⟩
      · rintro ⟨i, hi, h1, h2⟩
        rcases Nat.lt_succ_iff_lt_or_eq.1 hi with h | rfl
        · exact ⟨i, h, h1, h2⟩
        · rw [hb] at h1; cases h1
    | false =>
      simp only [Bool.false_eq_true, if_false, List.mem_append, List.mem_singleton, ih]
      constructor
      · rintro (⟨i, hi, h⟩ | h)
        · exact ⟨i, by omega, h⟩
        · exact ⟨k, by omega, hb, h⟩
      · rintro ⟨i, hi, h1, h2⟩
        rcases Nat.lt_succ_iff_lt_or_eq.1 hi with h | rfl
        · exact .inl ⟨i, h, h1, h2⟩
        · exact .inr h2
theorem wo_ok {p : Pr} (hp : p.Ok) (s : Nat) : (woP p s).Ok := by
  obtain ⟨f1, f2, f3, b1, b2, b3, t1, t2, n1, n2, n3, hl, ht⟩ := hp
  refine ⟨f1, f2, f3, b1, b2, b3, t1, t2, n1, n2, n3, Nat.le_trans (keepL_len p s _) hl, fun t hm => ?_⟩
  obtain ⟨i, hi, _, rfl⟩ := (keepL_mem _).1 hm
  exact ht _ (by rw [thingAt_eq hi rfl]; exact List.getElem_mem hi)
/-- A set that holds no landmark. -/
def NoLand (p : Pr) (s : Nat) : Prop := ∀ i, i < p.things.length → s.testBit i = true → (thingAt p i).far = 0
theorem thing_mem {p : Pr} {i : Nat} (hi : i < p.things.length) : thingAt p i ∈ p.things := by rw [thingAt_eq hi rfl]; exact List.getElem_mem hi
theorem mem_thing {p : Pr} {t : Th} (h : t ∈ p.things) : ∃ i : Nat, i < p.things.length ∧ thingAt p i = t := by
  obtain ⟨i, hi, rfl⟩ := List.getElem_of_mem h
  exact ⟨i, hi, thingAt_eq hi rfl⟩
theorem wo_all {p : Pr} {s : Nat} (hs : NoLand p s) {x : Int} : InB x (allS (woP p s)) ↔ InB x (allS p) := by
  rw [allS_in, allS_in]
  show _ ∧ (∀ t ∈ keepL p s p.things.length, t.far ≠ 0 → InB x (powersR p t)) ↔ _
  constructor
  · rintro ⟨h1, h2⟩
    refine ⟨h1, fun t ht hf => ?_⟩
    obtain ⟨i, hi, rfl⟩ := mem_thing ht
    cases hb : s.testBit i with
    | true => exact absurd (hs i hi hb) hf
    | false => exact h2 _ ((keepL_mem _).2 ⟨i, hi, hb, rfl⟩) hf
  · rintro ⟨h1, h2⟩
    refine ⟨h1, fun t ht hf => ?_⟩
    obtain ⟨i, hi, _, rfl⟩ := (keepL_mem _).1 ht
    exact h2 _ (thing_mem hi) hf
theorem wo_with {p : Pr} {s : Nat} (hs : NoLand p s) {x : Int} : InB x (withK (woP p s) 0 (woP p s).things.length) ↔ InB x (withK p s p.things.length) := by
  rw [with_in, with_in, wo_all hs]
  constructor
  · rintro ⟨h1, h2⟩
    refine ⟨h1, fun i hi hb => ?_⟩
    obtain ⟨j, hj, he⟩ := mem_thing (p := woP p s) (show thingAt p i ∈ (woP p s).things from (keepL_mem _).2 ⟨i, hi, hb, rfl⟩)
    have := h2 j hj (by simp)
    rw [he] at this
    exact this
  · rintro ⟨h1, h2⟩
    refine ⟨h1, fun j hj _ => ?_⟩
    obtain ⟨i, hi, hb, he⟩ := (keepL_mem _).1 (thing_mem (p := woP p s) hj)
    rw [he]
    exact h2 i hi hb
theorem inB_ext {a b : Int × Int} (ha : isB a = true) (h : ∀ x, InB x a ↔ InB x b) : a = b := by
  have h1 := isB_iff.1 ha
  have h2 := (h _).1 h1
  have h3 : InB a.2 a := ⟨h1.2, Int.le_refl _⟩
  have h4 := (h _).1 h3
  have h5 := (h b.1).2 ⟨Int.le_refl _, by simp only [InB] at h2; omega⟩
  have h6 := (h b.2).2 ⟨by simp only [InB] at h2; omega, Int.le_refl _⟩
  simp only [InB] at *
  exact Prod.ext (by omega) (by omega)
theorem few_ok {p : Pr} (hp : p.Ok) (hw : isB (allS p) = true) : fewestX p = ((bestS p (allS p) : Int), withK p (bestS p (allS p)) p.things.length, 0) := by
  rw [few_same]
  unfold rfewX openR
  rw [ok_isPair hp, hw, rbest_eq hw]
  simp
theorem few_err {p : Pr} (h : ¬ (fewestX p).2.2 = 0) : (fewestX p).1 = 0 ∧ (fewestX p).2.1 = (0, 0) ∧ (fewestX p).2.2 = (powerX p).2 ∧ (decide ((fewestX p).2.2 = 1) == !isPair p) = true := by
  rw [few_same] at h ⊢
  rw [power_same]
  unfold rfewX powerR openR at *
  cases hp : isPair p with
  | false => simp
  | true =>
    cases ha : isB (allS p) with
    | false => simp
    | true => simp [hp, ha] at h
theorem few_fine {p : Pr} (h : (fewestX p).2.2 = 0) : p.Ok ∧ isB (allS p) = true := by
  rw [few_same] at h
  unfold rfewX openR at h
  cases hp : isPair p with
  | false => simp [hp] at h
  | true =>
    cases ha : isB (allS p) with
    | false => simp [hp, ha] at h
    | true => exact ⟨isPair_ok hp, rfl⟩
theorem pc_zero : ∀ k, pc 0 k = 0
  | 0 => rfl
  | k + 1 => by show pc 0 k + 0 / 2 ^ k % 2 = 0; rw [pc_zero k]; simp
theorem pc_of_zero {s : Nat} (hs : s < 4096) (h : pc s 12 = 0) : s = 0 := by
  have h1 : ∀ k, k ≤ 12 → pc s k = 0 := by
    intro k hk
    have hm : ∀ j, pc s k ≤ pc s (k + j) := by
      intro j
      induction j with
      | zero => exact Nat.le_refl _
      | succ j ih => show pc s k ≤ pc s (k + j) + _; omega
    have := hm (12 - k)
    rw [show k + (12 - k) = 12 by omega, h] at this
    omega
  apply Nat.eq_of_testBit_eq
  intro i
  rw [Nat.zero_testBit]
  by_cases hi : i < 12
  · have h2 := h1 (i + 1) (by omega)
    have h3 : pc s i + s / 2 ^ i % 2 = 0 := h2
    rw [Nat.testBit_eq_decide_div_mod_eq, decide_eq_false_iff_not]
    omega
  · exact Nat.testBit_lt_two_pow (Nat.lt_of_lt_of_le hs (by have : (2 : Nat) ^ 12 ≤ 2 ^ i := Nat.pow_le_pow_right (by omega) (by omega); omega))
theorem best_zero {p : Pr} (hp : p.Ok) (hw : isB (allS p) = true) : bestS p (allS p) = 0 ↔ Good p 0 := by
  obtain ⟨g1, g2⟩ := best_good hw
  constructor
  · intro h; rw [h] at g1; exact g1
  · intro h
    have h1 := good_le h
    have hl := hp.len
    have hlt : bestS p (allS p) < 4096 := by have : 2 ^ p.things.length ≤ 2 ^ 12 := Nat.pow_le_pow_right (by omega) hl; omega
    refine pc_of_zero hlt ?_
    have := pc_zero 12
    unfold Le at h1
    omega
/-- The best set holds no landmark, but each thing that cannot stand still. -/
theorem best_bits {p : Pr} (hw : isB (allS p) = true) {i : Nat} (hi : i < p.things.length) :
    ((thingAt p i).far ≠ 0 → (bestS p (allS p)).testBit i = false) ∧ (isB (nar (allS p) (powersR p (thingAt p i))) = false → (bestS p (allS p)).testBit i = true) := by
  have key : ∃ x, InB x (allS p) ∧ bestS p (allS p) = movedS p x := by
    obtain ⟨_, _, h3 | ⟨x, hx, h3⟩⟩ := bestL_le p (triedS p (allS p)) (movedS p (allS p).1)
    · exact ⟨_, isB_iff.1 hw, h3⟩
    · exact ⟨x, tried_all hw hx, h3⟩
  obtain ⟨x, hx, he⟩ := key
  rw [he]
  unfold movedS
  rw [moved_bit, decide_eq_true hi, Bool.true_and]
  refine ⟨fun hf => ?_, fun hs => ?_⟩
  · rw [Bool.not_eq_false', still_at]
    exact (allS_in.1 hx).2 _ (thing_mem hi) hf
  · rw [Bool.not_eq_true', Bool.eq_false_iff]
    intro h
    rw [Bool.eq_false_iff] at hs
    exact hs (isB_of (inB_nar.2 ⟨hx, (still_at _ _ _).1 h⟩))
theorem best_noland {p : Pr} (hw : isB (allS p) = true) : NoLand p (bestS p (allS p)) := fun i hi hb => by
  by_cases hf : (thingAt p i).far = 0
  · exact hf
  · rw [(best_bits hw hi).1 hf] at hb; cases hb
theorem wo_some {p : Pr} {s : Nat} (hs : NoLand p s) (hw : isB (allS p) = true) : isB (allS (woP p s)) = true := isB_of ((wo_all hs).2 (isB_iff.1 hw))
theorem wo_good {p : Pr} {s : Nat} (hs : NoLand p s) : Good (woP p s) 0 ↔ Good p s := by
  unfold Good
  constructor
  · intro h; exact isB_of ((wo_with hs).1 (isB_iff.1 h))
  · intro h; exact isB_of ((wo_with hs).2 (isB_iff.1 h))
/-- Without the fewest things, nothing must have moved, and the power is the same. -/
theorem wo_best {p : Pr} (hp : p.Ok) (hw : isB (allS p) = true) : fewestX (woP p (bestS p (allS p))) = (0, withK p (bestS p (allS p)) p.things.length, 0) := by
  have hs := best_noland hw
  have hw2 := wo_some hs hw
  have hg := (best_good hw).1
  have hz := (best_zero (wo_ok hp _) hw2).2 ((wo_good hs).2 hg)
  rw [few_ok (wo_ok hp _) hw2, hz]
  have he : withK (woP p (bestS p (allS p))) 0 (woP p (bestS p (allS p))).things.length = withK p (bestS p (allS p)) p.things.length := inB_ext ((wo_good hs).2 hg) (fun x => wo_with hs)
  rw [he]
  simp
theorem wo_other {p : Pr} (hp : p.Ok) (hw : isB (allS p) = true) {s : Nat} (hs : NoLand p s) : (fewestX (woP p s)).2.2 = 0 ∧ ((fewestX (woP p s)).1 = 0 → Le (bestS p (allS p)) s) := by
  have hw2 := wo_some hs hw
  rw [few_ok (wo_ok hp _) hw2]
  refine ⟨rfl, fun h => ?_⟩
  have h0 : bestS (woP p s) (allS (woP p s)) = 0 := by simpa using h
  exact good_le ((wo_good hs).1 ((best_zero (wo_ok hp _) hw2).1 h0))
/-- The other set, without the landmarks among the first ones. -/
def lessK (p : Pr) (s : Nat) : Nat → Nat
  | 0 => s
  | k + 1 => if (thingAt p k).far = 0 then lessK p s k else andN (lessK p s k) (2 ^ k)
theorem lessK_out {p : Pr} {s k : Nat} {t : Th} (ht : thingAt p k = t) (h : ¬ t.far = 0) : lessK p s (k + 1) = andN (lessK p s k) (2 ^ k) := by simp [lessK, ht, h]
theorem lessK_in {p : Pr} {s k : Nat} {t : Th} (ht : thingAt p k = t) (h : t.far = 0) : lessK p s (k + 1) = lessK p s k := by simp [lessK, ht, h]
theorem lessK_le (p : Pr) (s : Nat) : ∀ k, lessK p s k ≤ s
  | 0 => Nat.le_refl _
  | k + 1 => by
    have h := lessK_le p s k
    have h2 := andN_le (lessK p s k) (2 ^ k)
    unfold lessK
    split <;> omega
theorem lessK_bit (p : Pr) (s : Nat) : ∀ k i, (lessK p s k).testBit i = (s.testBit i && !(decide (i < k) && !decide ((thingAt p i).far = 0)))
  | 0, i => by simp [lessK]
  | k + 1, i => by
    have ih := lessK_bit p s k i
    unfold lessK
    split
    · rename_i h
      rw [ih]
      by_cases he : i = k
      · subst he; simp [h]
      · rw [show decide (i < k + 1) = decide (i < k) from decide_eq_decide.2 (by omega)]
    · rename_i h
      rw [andN_bit, ih, Nat.testBit_two_pow]
      by_cases he : i = k
      · subst he; simp [h]
      · rw [show decide (i < k + 1) = decide (i < k) from decide_eq_decide.2 (by omega), decide_eq_false (p := k = i) (fun e => he e.symm)]; simp
theorem less_noland (p : Pr) (s : Nat) : NoLand p (lessK p s p.things.length) := fun i hi hb => by
  rw [lessK_bit, decide_eq_true hi] at hb
  simp only [Bool.true_and, Bool.not_not, Bool.and_eq_true, decide_eq_true_eq] at hb
  exact hb.2
theorem keepL_in {p : Pr} {s k : Nat} {t : Th} (ht : thingAt p k = t) (h : s.testBit k = false) : keepL p s (k + 1) = keepL p s k ++ [t] := by simp [keepL, h, ht]
theorem keepL_out {p : Pr} {s k : Nat} (h : s.testBit k = true) : keepL p s (k + 1) = keepL p s k := by simp [keepL, h]
theorem bit_zero {s k : Nat} (h : ((s >>> k &&& 1 : Nat) : Int) = 0) : s.testBit k = false := by
  have h2 : s >>> k &&& 1 = 0 := by exact_mod_cast h
  rw [Nat.testBit, Nat.and_comm, h2]; rfl
theorem bit_one {s k : Nat} (h : ¬ ((s >>> k &&& 1 : Nat) : Int) = 0) : s.testBit k = true := by
  have h2 : ¬ s >>> k &&& 1 = 0 := fun e => h (by exact_mod_cast e)
  rw [Nat.testBit, Nat.and_comm, bne_iff_ne]
  exact h2
theorem bit_dec (s k : Nat) : decide (((s >>> k &&& 1 : Nat) : Int) = 1) = s.testBit k := by
  have h1 : s >>> k &&& 1 = (s.testBit k).toNat := by
    rw [Nat.testBit, Nat.and_comm]
    have : 1 &&& s >>> k = s >>> k % 2 := by rw [Nat.and_comm]; exact Nat.and_one_is_mod _
    rw [this]
    rcases Nat.mod_two_eq_zero_or_one (s >>> k) with h | h <;> rw [h] <;> rfl
  rw [h1]
  cases s.testBit k <;> rfl
theorem why_fine {p : Pr} (hp : p.Ok) (hw : isB (allS p) = true) {n : Int} (ht : thingR p n = true) : (whyX p n).2 = 0 ∧ (whyX p n).1 = whyS p (thingAt p n) (allS p) := by
  unfold whyX
  rw [truthsX_one, ok_isPair hp, ht, hw]
  exact ⟨rfl, rfl⟩
theorem few_c4 {p : Pr} (hw : isB (allS p) = true) {k : Nat} (hk : k < p.things.length) {e y f : Int} (he : e = 0) (hy : y = whyS p (thingAt p k) (allS p)) (hf : (thingAt p k).far = f) {m : Nat} (hm : bestS p (allS p) = m) :
    (!decide (e = 0) || (!decide (y = 0) || !decide (f = 0)) && !(decide (((m >>> k &&& 1 : Nat) : Int) = 1) == !decide (y = 0))) = false := by
  obtain ⟨b1, b2⟩ := best_bits hw hk
  rw [bit_dec, he]
  rw [hm] at b1 b2
  rw [hf] at b1
  by_cases h0 : y = 0
  · by_cases h1 : f = 0
    · simp [h0, h1]
    · rw [b1 h1, h0]; simp
  · have hs : isB (nar (allS p) (powersR p (thingAt p k))) = false := by
      rw [Bool.eq_false_iff]
      intro h
      exact h0 (by rw [hy]; exact (whyS_zero _ _ _).2 h)
    rw [b2 hs]
    simp [h0]
theorem le_out {m s : Nat} (h : Le m s) : (decide (((pc m 12 : Nat) : Int) < ((pc s 12 : Nat) : Int)) || decide (((pc s 12 : Nat) : Int) = ((pc m 12 : Nat) : Int)) && decide ((m : Int) ≤ (s : Int))) = true := by
  unfold Le at h
  simp only [Bool.or_eq_true, Bool.and_eq_true, decide_eq_true_eq]
  omega
end Go.Pw1
