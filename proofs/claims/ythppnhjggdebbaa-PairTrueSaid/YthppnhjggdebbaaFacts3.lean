/- Layer 1, plain facts for the law on both ends of a distance. -/
import Derived.Test.YthppnhjggdebbaaFacts2
set_option linter.unusedSimpArgs false
set_option linter.unusedVariables false
namespace Go.Pw1
open Go Go.Eng
/-- The pair in which thing n is a landmark that is so far away, or none. -/
def markP (p : Pr) (n : Nat) (z : Int) : Pr := { p with things := p.things.set n { thingAt p n with far := z } }
theorem mark_ok {p : Pr} (hp : p.Ok) {n : Nat} (hn : n < p.things.length) {z : Int} (h1 : p.near ≤ z) (h2 : z ≤ p.far) : (markP p n z).Ok := by
  obtain ⟨f1, f2, f3, b1, b2, b3, t1, t2, n1, n2, n3, hl, ht⟩ := hp
  refine ⟨f1, f2, f3, b1, b2, b3, t1, t2, n1, n2, n3, by simpa [markP] using hl, fun t hm => ?_⟩
  have hta : thingAt p (n : Int) ∈ p.things := by rw [thingAt_eq hn rfl]; exact List.getElem_mem hn
  rcases List.mem_or_eq_of_mem_set hm with hm | rfl
  · exact ht t hm
  · exact ⟨(ht _ hta).1, .inr ⟨h1, h2⟩⟩
theorem powersR_mark (p : Pr) (n : Nat) (z : Int) (t : Th) : powersR (markP p n z) t = powersR p t := rfl
theorem powers0_mark (p : Pr) (n : Nat) (z : Int) : powers0 (markP p n z) = powers0 p := rfl
theorem mem_set_iff {α : Type} {l : List α} {n : Nat} {a t : α} (hn : n < l.length) : (∀ x ∈ l.set n a, x = t → False) ↔ (∀ i (h : i < l.length), i ≠ n → l[i] ≠ t) ∧ a ≠ t := by
  constructor
  · intro h
    refine ⟨fun i hi hne he => h t ?_ rfl, fun he => h a ?_ he⟩
    · rw [List.mem_iff_getElem]
      exact ⟨i, by simpa using hi, by rw [List.getElem_set_ne (Ne.symm hne)]; exact he⟩
    · rw [List.mem_iff_getElem]
      exact ⟨n, by simpa using hn, by simp⟩
  · rintro ⟨h1, h2⟩ x hx rfl
    rw [List.mem_iff_getElem] at hx
    obtain ⟨i, hi, he⟩ := hx
    rw [List.getElem_set] at he
    split at he
    · exact h2 he
    · rename_i hne
      exact h1 i (by simpa using hi) (Ne.symm hne) he
theorem forall_set {α : Type} {l : List α} {n : Nat} {a : α} {P : α → Prop} (hn : n < l.length) : (∀ x ∈ l.set n a, P x) ↔ (∀ i (h : i < l.length), i ≠ n → P l[i]) ∧ P a := by
  constructor
  · intro h
    refine ⟨fun i hi hne => h _ ?_, h a ?_⟩
    · rw [List.mem_iff_getElem]
      exact ⟨i, by simpa using hi, by rw [List.getElem_set_ne (Ne.symm hne)]⟩
    · rw [List.mem_iff_getElem]
      exact ⟨n, by simpa using hn, by simp⟩
  · rintro ⟨h1, h2⟩ x hx
    rw [List.mem_iff_getElem] at hx
    obtain ⟨i, hi, rfl⟩ := hx
    rw [List.getElem_set]
    split
    · exact h2
    · rename_i hne
      exact h1 i (by simpa using hi) (Ne.symm hne)
theorem forall_get {α : Type} {l : List α} {n : Nat} {P : α → Prop} (hn : n < l.length) : (∀ x ∈ l, P x) ↔ (∀ i (h : i < l.length), i ≠ n → P l[i]) ∧ P l[n] := by
  constructor
  · intro h
    exact ⟨fun i hi _ => h _ (List.getElem_mem hi), h _ (List.getElem_mem hn)⟩
  · rintro ⟨h1, h2⟩ x hx
    rw [List.mem_iff_getElem] at hx
    obtain ⟨i, hi, rfl⟩ := hx
    by_cases he : i = n
    · subst he; exact h2
    · exact h1 i hi he
/-- The powers of the pair with a landmark more: those of the pair that suit it. -/
theorem mark_in {p : Pr} {n : Nat} (hn : n < p.things.length) (h0 : (thingAt p n).far = 0) {z : Int} (hz : z ≠ 0) {x : Int} : InB x (allS (markP p n z)) ↔ InB x (allS p) ∧ InB x (powersR p { thingAt p n with far := z }) := by
  have hta : p.things[n] = thingAt p n := (thingAt_eq hn rfl).symm
  rw [allS_in, allS_in, powers0_mark]
  show _ ∧ (∀ t ∈ p.things.set n _, t.far ≠ 0 → InB x (powersR p t)) ↔ _
  rw [forall_set hn, forall_get (P := fun t => t.far ≠ 0 → InB x (powersR p t)) hn, hta]
  constructor
  · rintro ⟨h1, h2, h3⟩
    exact ⟨⟨h1, h2, fun h => absurd h0 h⟩, h3 hz⟩
  · rintro ⟨⟨h1, h2, _⟩, h3⟩
    exact ⟨h1, h2, fun _ => h3⟩
def canS (p : Pr) (n : Nat) (z : Int) : Bool := decide ((powerX (markP p n z)).2 = 0)
theorem power_ok {p : Pr} (hp : p.Ok) : (powerX p).2 = 0 ↔ isB (allS p) = true := by
  rw [power_same]
  unfold powerR openR
  rw [ok_isPair hp]
  cases isB (allS p) <;> simp
theorem shown_far (t : Th) (z : Int) : shownS { t with far := z } = shownS t := rfl
theorem level_far (p : Pr) (t : Th) (z : Int) : levelS p { t with far := z } = levelS p t := rfl
theorem powersR_far {p : Pr} {t : Th} {z : Int} (hz : z ≠ 0) : powersR p { t with far := z } = if isB (shownS t) && levelS p t then ((shownS t).1 * z, ((shownS t).2 + 1) * z - 1) else (1, 0) := by
  unfold powersR
  rw [shown_far, level_far]
  unfold powersS
  rw [if_neg hz]
theorem div_between {u v p1 p2 : Int} (h1 : 0 < p1) (h2 : p1 ≤ p2) (huv : u ≤ v) (hv : p1 * p1 ≤ v) : u / (p2 + 1) + 1 ≤ v / p1 := by
  have hk : p1 ≤ v / p1 := by rw [le_div h1]; exact hv
  have hlt : v < p1 * (v / p1) + p1 := by
    have := Int.emod_lt_of_pos v h1
    have h3 := Int.mul_ediv_add_emod v p1
    omega
  have : u / (p2 + 1) < v / p1 := by
    rw [div_lt (by omega)]
    have h5 := Int.mul_le_mul_of_nonneg_left (show p1 + 1 ≤ p2 + 1 by omega) (show 0 ≤ v / p1 by omega)
    have h6 : v / p1 * (p1 + 1) = p1 * (v / p1) + v / p1 := by rw [Int.mul_add, Int.mul_comm]; omega
    omega
  omega
/-- A thing that stands still, and is no landmark, can be so far away just if this is within its distances. -/
theorem can_iff {p : Pr} (hp : p.Ok) (hw : isB (allS p) = true) {n : Nat} (hn : n < p.things.length) (h0 : (thingAt p n).far = 0) {z : Int} (h1 : p.near ≤ z) (h2 : z ≤ p.far) :
    canS p n z = true ↔ isB (nar (allS p) (powersR p (thingAt p n))) = true ∧ InB z (farS p (thingAt p n) (allS p)) := by
  have n1 := hp.n1
  have n2 := hp.n2
  obtain ⟨w1, w2⟩ := allS_bd hp
  have wi := (isB_iff.1 hw).2
  have hm : thingAt p n ∈ p.things := by rw [thingAt_eq hn rfl]; exact List.getElem_mem hn
  unfold canS
  rw [decide_eq_true_eq, power_ok (mark_ok hp hn h1 h2)]
  constructor
  · intro hb
    obtain ⟨hx, hx2⟩ := (mark_in hn h0 (show z ≠ 0 by omega)).1 (isB_iff.1 hb)
    generalize (allS (markP p n z)).1 = x at hx hx2
    rw [powersR_far (by omega)] at hx2
    by_cases hs : (isB (shownS (thingAt p n)) && levelS p (thingAt p n)) = true
    · rw [if_pos hs] at hx2
      have hb := shown_bd (Bool.and_eq_true _ _ ▸ hs).1
      have he : powersR p (thingAt p n) = ((shownS (thingAt p n)).1 * p.near, ((shownS (thingAt p n)).2 + 1) * p.far - 1) := by
        unfold powersR powersS
        rw [if_pos hs, if_pos h0]
      unfold farS
      rw [if_pos h0, he]
      have hxA := hx
      simp only [InB] at hx hx2 ⊢
      generalize (shownS (thingAt p n)).1 = p1 at *
      generalize (shownS (thingAt p n)).2 = p2 at *
      generalize (allS p).1 = u at *
      generalize (allS p).2 = v at *
      have m1 := Int.mul_le_mul_of_nonneg_left h1 hb.1
      have m2 := Int.mul_le_mul_of_nonneg_left h2 (show 0 ≤ p2 + 1 by omega)
      refine ⟨isB_of (x := x) (inB_nar.2 ⟨hxA, by simp only [InB]; omega⟩), ?_, ?_⟩
      · have : u / (p2 + 1) < z := by rw [div_lt (by omega), Int.mul_comm]; omega
        omega
      · split
        · have : z ≤ v / p1 := by rw [le_div (by omega), Int.mul_comm]; omega
          omega
        · exact h2
    · rw [if_neg hs] at hx2
      simp only [InB] at hx hx2
      omega
  · rintro ⟨hst, hz⟩
    obtain ⟨x, hx, hx2⟩ := isB_nar hst
    obtain ⟨z1, z2, st, hb, hlv⟩ := stl_of hp hm (by simp only [InB] at hx; omega) hx2
    unfold farS at hz
    rw [if_pos h0] at hz
    have s0 := st.s0
    have s1 := st.s1
    have s2 := st.s2
    have hpr : powersR p { thingAt p n with far := z } = ((shownS (thingAt p n)).1 * z, ((shownS (thingAt p n)).2 + 1) * z - 1) := by
      rw [powersR_far (by omega), if_pos (by rw [hb, hlv]; rfl)]
    have key : ∀ y, y = max (allS p).1 ((shownS (thingAt p n)).1 * z) → InB y (allS p) ∧ InB y (powersR p { thingAt p n with far := z }) := by
      intro y hy
      rw [hpr]
      simp only [InB] at hz ⊢
      generalize (shownS (thingAt p n)).1 = p1 at *
      generalize (shownS (thingAt p n)).2 = p2 at *
      generalize (allS p).1 = u at *
      generalize (allS p).2 = v at *
      have g1 : u / (p2 + 1) < z := by omega
      rw [div_lt (by omega), Int.mul_comm] at g1
      have g2 : p1 * z ≤ v := by
        by_cases hp1 : 0 < p1
        · rw [if_pos hp1] at hz
          have : z ≤ v / p1 := by omega
          rw [le_div hp1, Int.mul_comm] at this
          exact this
        · rw [show p1 = 0 by omega]; omega
      have g3 : p1 * z ≤ (p2 + 1) * z - 1 := by
        have := mul_mono (c := z) (by omega) (show p1 ≤ p2 by omega)
        have e : (p2 + 1) * z = p2 * z + z := by rw [Int.add_mul]; omega
        omega
      omega
    exact isB_of ((mark_in hn h0 (show z ≠ 0 by omega)).2 (key _ rfl))
/-- The distances of a thing that stands still are some. -/
theorem far_some {p : Pr} (hp : p.Ok) (hw : isB (allS p) = true) {t : Th} (hm : t ∈ p.things) (h0 : t.far = 0) (hst : isB (nar (allS p) (powersR p t)) = true) :
    p.near ≤ (farS p t (allS p)).1 ∧ (farS p t (allS p)).1 ≤ (farS p t (allS p)).2 ∧ (farS p t (allS p)).2 ≤ p.far := by
  have n1 := hp.n1
  have n2 := hp.n2
  obtain ⟨w1, w2⟩ := allS_bd hp
  have wi := (isB_iff.1 hw).2
  obtain ⟨x, hx, hx2⟩ := isB_nar hst
  obtain ⟨z1, z2, st, hb, hlv⟩ := stl_of hp hm (by simp only [InB] at hx; omega) hx2
  obtain ⟨rfl, rfl⟩ := st.other h0
  rw [st.e1] at hx2
  have s0 := st.s0
  have s1 := st.s1
  have s2 := st.s2
  unfold farS
  rw [if_pos h0]
  simp only [InB] at hx hx2
  generalize (shownS t).1 = p1 at *
  generalize (shownS t).2 = p2 at *
  generalize (allS p).1 = u at *
  generalize (allS p).2 = v at *
  have g1 : u / (p2 + 1) < p.far := by rw [div_lt (by omega), Int.mul_comm]; omega
  refine ⟨by omega, ?_, ?_⟩
  · split
    · rename_i hp1
      have g2 : p.near ≤ v / p1 := by rw [le_div hp1, Int.mul_comm]; omega
      have m := Int.mul_le_mul_of_nonneg_left (show p1 ≤ p.near by omega) s0
      have g3 := div_between (u := u) hp1 s1 wi (by omega)
      omega
    · omega
  · split <;> omega
theorem dist_err {p : Pr} {n : Int} (h : ¬ (whyX p n).2 = 0) : (distX p n).2 = (whyX p n).2 ∧ (distX p n).1 = (0, 0) := by
  rw [dist_same]
  unfold whyX at h ⊢
  unfold distR openR
  rw [truthsX_one] at h ⊢
  cases hp : isPair p with
  | false => simp
  | true =>
    cases ht : thingR p n with
    | false => simp
    | true =>
      cases ha : isB (allS p) with
      | false => simp
      | true => simp [hp, ht, ha] at h
theorem dist_eq {p : Pr} (hp : p.Ok) {n : Int} (ht : thingR p n = true) (hw : isB (allS p) = true) : distX p n = if isB (nar (allS p) (powersR p (thingAt p n))) then (farS p (thingAt p n) (allS p), 0) else ((0, 0), 11) := by
  rw [dist_same]
  unfold distR openR farS
  rw [ok_isPair hp, ht, hw]
  simp only [if_true, ne_eq, not_true_eq_false, if_false]
  split
  · split <;> rfl
  · rfl
theorem whyS_zero (p : Pr) (t : Th) (w : Int × Int) : whyS p t w = 0 ↔ isB (nar w (powersR p t)) = true := by
  rw [whyS_eq]
  constructor
  · intro h
    split at h
    · assumption
    · split at h
      · omega
      · split at h
        · omega
        · split at h <;> omega
  · intro h; rw [if_pos h]
/-- What is known of both ends of a distance. -/
theorem ends_land {p : Pr} (hp : p.Ok) {k : Nat} (hk : k < p.things.length) (hw : isB (allS p) = true) (hy : (whyX p k).1 = whyS p (thingAt p k) (allS p)) (h : ¬ (thingAt p k).far = 0) :
    (whyX p k).1 = 0 ∧ (distX p k).2 = 0 ∧ (distX p k).1 = ((thingAt p k).far, (thingAt p k).far) := by
  have hm : thingAt p k ∈ p.things := by rw [thingAt_eq hk rfl]; exact List.getElem_mem hk
  have ht : thingR p k = true := by simp [thingR, within]; omega
  have hst := land_in hw hm h
  rw [hy, dist_eq hp ht hw, if_pos hst]
  refine ⟨(whyS_zero _ _ _).2 hst, rfl, ?_⟩
  unfold farS
  rw [if_neg h]
theorem ends_moved {p : Pr} (hp : p.Ok) {k : Nat} (hk : k < p.things.length) (hw : isB (allS p) = true) (hy : (whyX p k).1 = whyS p (thingAt p k) (allS p)) (h : (thingAt p k).far = 0) (hd : ¬ (distX p k).2 = 0) :
    1 ≤ (whyX p k).1 ∧ (whyX p k).1 ≤ 4 ∧ (distX p k).2 = 11 ∧ (distX p k).1 = (0, 0) ∧ ∀ z, p.near ≤ z → z ≤ p.far → canS p k z = false := by
  have ht : thingR p k = true := by simp [thingR, within]; omega
  have he := dist_eq hp ht hw
  by_cases hst : isB (nar (allS p) (powersR p (thingAt p k))) = true
  · rw [if_pos hst] at he
    rw [he] at hd
    exact absurd rfl hd
  · rw [if_neg hst] at he
    have h1 := whyS_rng p (thingAt p k) (allS p)
    have h2 : whyS p (thingAt p k) (allS p) ≠ 0 := fun h => hst ((whyS_zero _ _ _).1 h)
    refine ⟨by omega, by omega, by rw [he], by rw [he], fun z g1 g2 => ?_⟩
    rw [Bool.eq_false_iff]
    intro hc
    exact hst ((can_iff hp hw hk h g1 g2).1 hc).1
theorem ends_still {p : Pr} (hp : p.Ok) {k : Nat} (hk : k < p.things.length) (hw : isB (allS p) = true) (hy : (whyX p k).1 = whyS p (thingAt p k) (allS p)) (h : (thingAt p k).far = 0) (hd : (distX p k).2 = 0) :
    (whyX p k).1 = 0 ∧ p.near ≤ (distX p k).1.1 ∧ (distX p k).1.1 ≤ (distX p k).1.2 ∧ (distX p k).1.2 ≤ p.far ∧ ∀ z, p.near ≤ z → z ≤ p.far → canS p k z = (decide ((distX p k).1.1 ≤ z) && decide (z ≤ (distX p k).1.2)) := by
  have hm : thingAt p k ∈ p.things := by rw [thingAt_eq hk rfl]; exact List.getElem_mem hk
  obtain ⟨_, _, _, hst, he⟩ := dist_ok hd
  obtain ⟨f1, f2, f3⟩ := far_some hp hw hm h hst
  rw [he]
  refine ⟨by rw [hy]; exact (whyS_zero _ _ _).2 hst, f1, f2, f3, fun z g1 g2 => ?_⟩
  rw [Bool.eq_iff_iff, can_iff hp hw hk h g1 g2]
  simp only [hst, true_and, Bool.and_eq_true, decide_eq_true_eq]
  rfl
theorem ends_chain {p : Pr} {k : Nat} {y d1 d2 : Int} (hy : y = 0) (h1 : p.near ≤ d1) (h2 : d1 ≤ d2) (h3 : d2 ≤ p.far) (hc : ∀ z, p.near ≤ z → z ≤ p.far → canS p k z = (decide (d1 ≤ z) && decide (z ≤ d2))) :
    (!decide (y = 0) || decide (d1 < p.near) || decide (d2 < d1) || decide (p.far < d2) || !canS p k d1 || !canS p k d2 || decide (p.near < d1) && canS p k (d1 - 1) || decide (d2 < p.far) && canS p k (d2 + 1)) = false := by
  rw [hc d1 h1 (by omega), hc d2 (by omega) h3]
  simp only [Bool.or_eq_false_iff, Bool.and_eq_false_iff, Bool.not_eq_false', decide_eq_true_eq, decide_eq_false_iff_not, Bool.and_eq_true]
  refine ⟨⟨⟨⟨⟨⟨⟨hy, by omega⟩, by omega⟩, by omega⟩, by omega⟩, by omega⟩, ?_⟩, ?_⟩
  · by_cases h : p.near < d1
    · rw [hc (d1 - 1) (by omega) (by omega)]
      simp only [Bool.and_eq_false_iff, decide_eq_false_iff_not]
      omega
    · exact .inl h
  · by_cases h : d2 < p.far
    · rw [hc (d2 + 1) (by omega) (by omega)]
      simp only [Bool.and_eq_false_iff, decide_eq_false_iff_not]
      omega
    · exact .inl h
end Go.Pw1
