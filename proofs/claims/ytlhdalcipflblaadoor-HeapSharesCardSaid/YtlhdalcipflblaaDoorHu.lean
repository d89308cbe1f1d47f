/- Layer 10, plain: the first set of cards that have too few entries. -/
import Derived.Test.YtlhdalcipflblaaDoorHt
set_option linter.unusedSimpArgs false
set_option linter.unusedVariables false
namespace Go.Hp
open Go Go.Eng Go.Pw1 Go.Proofs.YtlhdalcipflblaaDoor
theorem bit_one (s k : Nat) : s / 2 ^ k % 2 = if s.testBit k then 1 else 0 := by
  rw [Nat.testBit_eq_decide_div_mod_eq]
  by_cases h : s / 2 ^ k % 2 = 1
  · simp [h]
  · simp [h]; omega
theorem pc_del {s t i : Nat} (h : ∀ j, t.testBit j = (s.testBit j && !decide (j = i))) : ∀ k, pc s k = pc t k + if decide (i < k) && s.testBit i then 1 else 0
  | 0 => by simp [pc]
  | k + 1 => by
    have ih := pc_del h k
    show pc s k + s / 2 ^ k % 2 = pc t k + t / 2 ^ k % 2 + _
    rw [bit_one, bit_one, h k, ih]
    by_cases e : k = i
    · subst e
      have h1 : ¬ k < k := by omega
      cases s.testBit k <;> simp [h1]
    · by_cases h1 : i < k
      · have h2 : i < k + 1 := by omega
        cases s.testBit k <;> cases s.testBit i <;> simp [h1, h2, e]
      · have h2 : ¬ i < k + 1 := by omega
        cases s.testBit k <;> simp [h1, h2, e]
theorem pc_pos : ∀ {k s : Nat}, 0 < s → s < 2 ^ k → 0 < pc s k
  | 0, s, h0, h => by simp at h; omega
  | k + 1, s, h0, h => by
    rw [pc_half]
    rcases Nat.eq_zero_or_pos (s % 2) with h1 | h1
    · have := pc_pos (k := k) (s := s / 2) (by omega) (by rw [Nat.pow_succ] at h; omega)
      omega
    · omega
theorem pc12 {s n : Nat} (hn : n ≤ 12) (h : s < 2 ^ n) : pc s 12 = pc s n := by
  have h1 := pc_top (s := s) (k := n) (Nat.div_eq_of_lt h) (12 - n)
  rw [show n + (12 - n) = 12 by omega] at h1
  exact h1
def ltS (s t : Nat) : Prop := pc s 12 < pc t 12 ∨ (pc s 12 = pc t 12 ∧ s < t)
theorem sets_pw (n : Nat) : (setsL n).Pairwise ltS := by
  unfold setsL
  refine flat_pw (R := (· < ·)) (List.pairwise_map.2 (List.pairwise_lt_range.imp fun h => by omega)) (fun k _ => ?_) fun a b hab x hx y hy => ?_
  · refine (List.pairwise_lt_range.filter _).imp_of_mem fun {x y} hx hy h => .inr ⟨?_, h⟩
    have h1 := (List.mem_filter.1 hx).2
    have h2 := (List.mem_filter.1 hy).2
    simp only [Bool.and_eq_true, decide_eq_true_eq] at h1 h2
    omega
  · have h1 := (List.mem_filter.1 hx).2
    have h2 := (List.mem_filter.1 hy).2
    simp only [Bool.and_eq_true, decide_eq_true_eq] at h1 h2
    exact .inl (by omega)
theorem sets_mem {n s : Nat} (hn : n ≤ 8) : s ∈ setsL n ↔ 0 < s ∧ s < 2 ^ n := by
  unfold setsL
  simp only [List.mem_flatMap, List.mem_map, List.mem_range, List.mem_filter, Bool.and_eq_true, decide_eq_true_eq]
  constructor
  · rintro ⟨_, _, h1, h2, _⟩
    exact ⟨h2, h1⟩
  · rintro ⟨h1, h2⟩
    have h3 := pc12 (by omega) h2
    have h4 := pc_pos h1 h2
    have h5 := pc_le s n
    exact ⟨pc s 12, ⟨pc s 12 - 1, by omega, by omega⟩, h2, h1, rfl⟩
theorem short_zero (fs : List Nat) : shortX fs 0 = false := by
  unfold shortX
  rw [pc_zero]
  simp
/-- What Why returns, in one piece. -/
structure WhyIs (fs : List Nat) (s e : Nat) : Prop where
  lt : s < 2 ^ fs.length
  se : (s = 0 ∧ e = 0) ∨ (0 < s ∧ e = 11 ∧ shortX fs s = true)
  del : ∀ i, s.testBit i = true → shortX fs (andN s (2 ^ i)) = false
  min : ∀ t, t < 2 ^ fs.length → shortX fs t = true → 0 < s ∧ (pc s 12 < pc t 12 ∨ (pc s 12 = pc t 12 ∧ s ≤ t))
theorem andN_del {s i : Nat} : ∀ j, (andN s (2 ^ i)).testBit j = (s.testBit j && !decide (j = i)) := fun j => by
  rw [andN_bit, Nat.testBit_two_pow]
  congr 2
  exact decide_eq_decide.2 ⟨fun h => h.symm, fun h => h.symm⟩
theorem bit_lt {s n i : Nat} (h : s < 2 ^ n) (hb : s.testBit i = true) : i < n := by
  rcases Nat.lt_or_ge i n with h1 | h1
  · exact h1
  · have h2 : s < 2 ^ i := Nat.lt_of_lt_of_le h (Nat.pow_le_pow_right (by decide) h1)
    rw [Nat.testBit_lt_two_pow h2] at hb
    cases hb
theorem whyL_is {fs : List Nat} (hn : fs.length ≤ 8) : ∃ s e, WhyIs fs s e ∧ (match whyL fs with | some s => ((s : Int), (11 : Int)) | none => (0, 0)) = ((s : Int), (e : Int)) := by
  cases h : whyL fs with
  | none =>
    have h0 : ∀ t, t < 2 ^ fs.length → shortX fs t = false := fun t ht => by
      rcases Nat.eq_zero_or_pos t with rfl | h1
      · exact short_zero fs
      · have := List.find?_eq_none.1 h t ((sets_mem hn).2 ⟨h1, ht⟩)
        simpa using this
    exact ⟨0, 0, ⟨Nat.two_pow_pos _, .inl ⟨rfl, rfl⟩, fun i hi => by simp at hi, fun t ht hs => by rw [h0 t ht] at hs; cases hs⟩, rfl⟩
  | some s =>
    obtain ⟨h1, l1, l2, h2, h3⟩ := List.find?_eq_some_iff_append.1 h
    have hm : s ∈ setsL fs.length := by rw [h2]; simp
    obtain ⟨hs0, hs1⟩ := (sets_mem hn).1 hm
    have key : ∀ t, t < 2 ^ fs.length → ltS t s → shortX fs t = false := fun t ht hlt => by
      rcases Nat.eq_zero_or_pos t with rfl | h4
      · exact short_zero fs
      · have h5 : t ∈ setsL fs.length := (sets_mem hn).2 ⟨h4, ht⟩
        have h6 := sets_pw fs.length
        rw [h2] at h5 h6
        rcases List.mem_append.1 h5 with h7 | h7
        · simpa using h3 t h7
        · exfalso
          have h8 := (List.pairwise_append.1 h6).2.1
          unfold ltS at hlt
          rcases List.mem_cons.1 h7 with rfl | h7
          · omega
          · cases h8 with
            | cons h9 _ =>
              have h10 := h9 t h7
              unfold ltS at h10
              omega
    refine ⟨s, 11, ⟨hs1, .inr ⟨hs0, rfl, h1⟩, fun i hi => ?_, fun t ht hsh => ⟨hs0, ?_⟩⟩, rfl⟩
    · have h4 := pc_del (andN_del (s := s) (i := i)) 12
      have hi2 := bit_lt hs1 hi
      have hi3 : i < 12 := by omega
      simp only [hi3, hi, decide_true, Bool.and_self, if_true] at h4
      exact key _ (Nat.lt_of_le_of_lt (andN_le _ _) hs1) (.inl (by omega))
    · rcases Nat.lt_trichotomy (pc s 12) (pc t 12) with h4 | h4 | h4
      · exact .inl h4
      · refine .inr ⟨h4, ?_⟩
        rcases Nat.lt_or_ge t s with h5 | h5
        · rw [key t ht (.inr ⟨h4.symm, h5⟩)] at hsh; cases hsh
        · exact h5
      · rw [key t ht (.inl h4)] at hsh; cases hsh
theorem why_is {m : MxA} (hX : mixedX m.pl = true) : ∃ s e, WhyIs (fsX m.pl) s e ∧ WhyX m.pl = ((s : Int), (e : Int)) := by
  obtain ⟨h4, h8, h12⟩ := mixed_ok hX
  obtain ⟨s, e, h1, h2⟩ := whyL_is (fs := fsX m.pl) (by rw [fs_len]; exact h8)
  exact ⟨s, e, h1, by unfold WhyX; rw [if_pos hX]; exact h2⟩
theorem bit_iff (s k : Nat) : s.testBit k = decide (((s >>> k &&& 1 : Nat) : Int) = 1) := by
  rw [Nat.testBit_eq_decide_div_mod_eq, ← Nat.shiftRight_eq_div_pow, decide_eq_decide, Nat.and_one_is_mod]
  omega
theorem bit_yes {s k : Nat} (h : ((s >>> k &&& 1 : Nat) : Int) = 1) : s.testBit k = true := by rw [bit_iff, decide_eq_true h]
theorem bit_no {s k : Nat} (h : ¬ ((s >>> k &&& 1 : Nat) : Int) = 1) : s.testBit k = false := by rw [bit_iff, decide_eq_false h]
theorem fits_at {m : MxA} (hX : mixedX m.pl = true) {k f : Nat} (hk : k < (fsX m.pl).length) (hf : (fsX m.pl)[k] = f) : FitsX m.pl (k : Int) = ((f : Int), 0) := by
  have hk2 : k < m.pl.cards.length := by rw [fs_len] at hk; exact hk
  have hc : cardX m.pl (k : Int) = true := by
    unfold cardX within
    rw [Bool.and_eq_true, decide_eq_true_eq, decide_eq_true_eq]
    omega
  unfold FitsX
  rw [if_pos hX, if_pos hc]
  simp [hk, hf]
theorem fs12 {m : MxA} (hX : mixedX m.pl = true) : ∀ f ∈ fsX m.pl, f < 2 ^ 12 := fun f hf => Nat.lt_of_lt_of_le (fs_lt m f hf) (Nat.pow_le_pow_right (by decide) (mixed_ok hX).2.2)
abbrev mB (m : MxA) : Obj := .cells m.cells.toArray 25 (0, 0)
end Go.Hp
