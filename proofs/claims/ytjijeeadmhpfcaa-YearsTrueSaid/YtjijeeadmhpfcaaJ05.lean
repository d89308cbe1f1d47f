/- Layer 1, plain facts for the laws without the document's answer. -/
import Derived.Test.YtjijeeadmhpfcaaJ04
import Derived.ChangeKeysEq
set_option linter.unusedSimpArgs false
set_option linter.unusedVariables false
namespace Go.Pw1
open Go Go.Eng
theorem ok_isPair {p : Pr} (h : p.Ok) : isPair p = true := by
  obtain ⟨f1, f2, f3, b1, b2, b3, t1, t2, n1, n2, n3, hl, ht⟩ := h
  simp only [isPair, isSpan, within, Bool.and_eq_true, decide_eq_true_eq, Bool.not_eq_true', List.any_eq_false]
  refine ⟨⟨⟨⟨⟨⟨⟨⟨f1, f2⟩, f3⟩, ⟨b1, b2⟩, b3⟩, t1, t2⟩, n1, by omega⟩, n2, n3⟩, by omega⟩, fun t hm => ?_⟩
  obtain ⟨⟨⟨h1, h2, h3⟩, ⟨h4, h5, h6⟩, ⟨h7, h8, h9⟩, ⟨h10, h11, h12⟩⟩, h0⟩ := ht t hm
  simp only [bad, isPlace, isSpan, within, Bool.or_eq_true, Bool.not_eq_true', Bool.and_eq_true, decide_eq_true_eq, Bool.and_eq_false_iff, decide_eq_false_iff_not, not_or, Bool.not_eq_false', not_and]
  omega
theorem isPair_iff {p : Pr} : isPair p = true ↔ p.Ok := ⟨isPair_ok, ok_isPair⟩
theorem all_in {p : Pr} {x : Int} : ∀ (l : List Th) (w : Int × Int), InB x (allL p w l) ↔ InB x w ∧ ∀ t ∈ l, t.far ≠ 0 → InB x (powersR p t)
  | [], w => by simp [allL]
  | t :: l, w => by
    simp only [allL]
    split
    · rename_i h0
      rw [all_in l w]
      exact ⟨fun ⟨h1, h2⟩ => ⟨h1, fun u hu hf => by rcases List.mem_cons.1 hu with rfl | hu; exact absurd h0 hf; exact h2 u hu hf⟩, fun ⟨h1, h2⟩ => ⟨h1, fun u hu => h2 u (List.mem_cons_of_mem _ hu)⟩⟩
    · rename_i h0
      rw [all_in l _, inB_nar]
      exact ⟨fun ⟨⟨h1, h2⟩, h3⟩ => ⟨h1, fun u hu hf => by rcases List.mem_cons.1 hu with rfl | hu; exact h2; exact h3 u hu hf⟩, fun ⟨h1, h2⟩ => ⟨⟨h1, h2 t (by simp) h0⟩, fun u hu => h2 u (List.mem_cons_of_mem _ hu)⟩⟩
theorem allS_in {p : Pr} {x : Int} : InB x (allS p) ↔ InB x (powers0 p) ∧ ∀ t ∈ p.things, t.far ≠ 0 → InB x (powersR p t) := all_in _ _
theorem thingAt_mem {p : Pr} {n : Int} (h : thingR p n = true) : thingAt p n ∈ p.things := by
  obtain ⟨k, rfl, hk⟩ := thingR_in h
  rw [thingAt_eq hk rfl]
  exact List.getElem_mem hk
/-- What is known of a thing of a valid pair that stands still. -/
structure Stl (p : Pr) (t : Th) (a1 a2 z1 z2 : Int) : Prop where
  s0 : 0 ≤ a1
  s1 : a1 ≤ a2
  s2 : a2 ≤ 2000
  e1 : powersR p t = (a1 * z1, (a2 + 1) * z2 - 1)
  le1 : 2000 ≤ z1
  le2 : z1 ≤ z2
  mark : t.far ≠ 0 → z1 = t.far ∧ z2 = t.far
  other : t.far = 0 → z1 = p.near ∧ z2 = p.far
theorem stl_of {p : Pr} (hp : p.Ok) {t : Th} (ht : t ∈ p.things) {x : Int} (hx : 1 ≤ x) (h : InB x (powersR p t)) : ∃ z1 z2, Stl p t (shownS t).1 (shownS t).2 z1 z2 ∧ isB (shownS t) = true ∧ levelS p t = true := by
  have hn : isB (shownS t) = true ∧ levelS p t = true := by
    cases hb : isB (shownS t) && levelS p t with
    | true => rw [Bool.and_eq_true] at hb; exact hb
    | false =>
      unfold powersR at h
      rw [if_neg (by rw [hb]; simp)] at h
      simp only [InB] at h
      omega
  have hb := shown_bd hn.1
  have hth := hp.ths t ht
  have n1 := hp.n1
  have n2 := hp.n2
  have he : powersR p t = powersS p t (shownS t) := by unfold powersR; rw [if_pos (by rw [hn.1, hn.2]; rfl)]
  by_cases h0 : t.far = 0
  · refine ⟨p.near, p.far, ⟨hb.1, hb.2.1, hb.2.2, ?_, n1, n2, fun h => absurd h0 h, fun _ => ⟨rfl, rfl⟩⟩, hn⟩
    rw [he]; unfold powersS; rw [if_pos h0]
  · refine ⟨t.far, t.far, ⟨hb.1, hb.2.1, hb.2.2, ?_, by rcases hth.2 with h | h <;> omega, Int.le_refl _, fun _ => ⟨rfl, rfl⟩, fun h => absurd h h0⟩, hn⟩
    rw [he]; unfold powersS; rw [if_neg h0]
/-- The distances of a thing that stands still. -/
def farS (p : Pr) (t : Th) (w : Int × Int) : Int × Int :=
  if t.far = 0 then (max p.near (w.1 / ((shownS t).2 + 1) + 1), if 0 < (shownS t).1 then min p.far (w.2 / (shownS t).1) else p.far) else (t.far, t.far)
theorem dist_ok {p : Pr} {n : Int} (h : (distX p n).2 = 0) : p.Ok ∧ thingR p n = true ∧ isB (allS p) = true ∧ isB (nar (allS p) (powersR p (thingAt p n))) = true ∧ (distX p n).1 = farS p (thingAt p n) (allS p) := by
  rw [dist_same] at h ⊢
  unfold distR openR at h ⊢
  cases hp : isPair p with
  | false => simp [hp] at h
  | true =>
    cases ht : thingR p n with
    | false => simp [hp, ht] at h
    | true =>
      cases ha : isB (allS p) with
      | false => simp [hp, ht, ha] at h
      | true =>
        simp only [hp, ht, ha, if_true, ne_eq, not_true_eq_false, if_false] at h ⊢
        cases hb : isB (nar (allS p) (powersR p (thingAt p n))) with
        | false => simp [hb] at h
        | true =>
          refine ⟨isPair_ok hp, by first | rfl | trivial, by first | rfl | trivial, by first | rfl | trivial, ?_⟩
          simp only [if_true, farS]
          split <;> rfl
theorem isB_nar {a b : Int × Int} (h : isB (nar a b) = true) : ∃ x, InB x a ∧ InB x b := ⟨_, inB_nar.1 (isB_iff.1 h)⟩
theorem shown_lt {a b : Th} (h : (shift b).2 < (shift a).1) (hb : 0 ≤ (shownS b).2) : (shownS b).2 < (shownS a).1 := by
  simp only [shownS, nar] at *
  omega
theorem le_div {a b c : Int} (hc : 0 < c) : a ≤ b / c ↔ a * c ≤ b := Int.le_ediv_iff_mul_le hc
theorem div_lt {a b c : Int} (hc : 0 < c) : b / c < a ↔ b < a * c := Int.ediv_lt_iff_lt_mul hc
theorem mul_mono {a b c : Int} (hc : 0 ≤ c) (h : a ≤ b) : a * c ≤ b * c := Int.mul_le_mul_of_nonneg_right h hc
theorem nearer_far {p : Pr} (hp : p.Ok) {a b : Th} (ha : a ∈ p.things) (hb : b ∈ p.things) (hw : isB (allS p) = true) (ia : isB (nar (allS p) (powersR p a)) = true) (ib : isB (nar (allS p) (powersR p b)) = true)
    (h : (shift b).2 < (shift a).1) : (farS p a (allS p)).1 ≤ (farS p b (allS p)).1 ∧ (farS p a (allS p)).2 ≤ (farS p b (allS p)).2 := by
  obtain ⟨w1, w2⟩ := allS_bd hp
  have wi := isB_iff.1 hw
  obtain ⟨x, xa, xa'⟩ := isB_nar ia
  obtain ⟨y, yb, yb'⟩ := isB_nar ib
  obtain ⟨za1, za2, sa, -⟩ := stl_of hp ha (by simp only [InB] at xa; omega) xa'
  obtain ⟨zb1, zb2, sb, -⟩ := stl_of hp hb (by simp only [InB] at yb; omega) yb'
  have hlt := shown_lt h (by have := sb.s0; have := sb.s1; omega)
  have la : a.far ≠ 0 → InB (allS p).1 (powersR p a) ∧ InB (allS p).2 (powersR p a) := fun hf => ⟨(allS_in.1 wi).2 a ha hf, (allS_in.1 (show InB (allS p).2 (allS p) from ⟨by have := wi.2; omega, Int.le_refl _⟩)).2 a ha hf⟩
  have lb : b.far ≠ 0 → InB (allS p).1 (powersR p b) ∧ InB (allS p).2 (powersR p b) := fun hf => ⟨(allS_in.1 wi).2 b hb hf, (allS_in.1 (show InB (allS p).2 (allS p) from ⟨by have := wi.2; omega, Int.le_refl _⟩)).2 b hb hf⟩
  have wle := wi.2
  rw [sa.e1] at la xa'
  rw [sb.e1] at lb yb'
  simp only [InB] at la lb xa xa' yb yb'
  unfold farS
  generalize (allS p).1 = u at *
  generalize (allS p).2 = v at *
  obtain ⟨a0, a1, a2, -, a3, a4, ma, oa⟩ := sa
  obtain ⟨b0, b1, b2, -, b3, b4, mb, ob⟩ := sb
  have n1 := hp.n1
  have n2 := hp.n2
  generalize (shownS a).1 = p1 at *
  generalize (shownS a).2 = p2 at *
  generalize (shownS b).1 = q1 at *
  generalize (shownS b).2 = q2 at *
  by_cases fa : a.far = 0
  · by_cases fb : b.far = 0
    · simp only [fa, fb, if_true]
      have h1 : u / (p2 + 1) ≤ u / (q2 + 1) := by
        rw [le_div (by omega)]
        refine Int.le_trans (Int.mul_le_mul_of_nonneg_left (show q2 + 1 ≤ p2 + 1 by omega) (Int.ediv_nonneg (by omega) (by omega))) ?_
        exact Int.ediv_mul_le _ (by omega)
      refine ⟨by omega, ?_⟩
      rw [if_pos (by omega)]
      split
      · have h2 : v / p1 ≤ v / q1 := by
          rw [le_div (by omega)]
          refine Int.le_trans (Int.mul_le_mul_of_nonneg_left (show q1 ≤ p1 by omega) (Int.ediv_nonneg (by omega) (by omega))) ?_
          exact Int.ediv_mul_le _ (by omega)
        omega
      · omega
    · simp only [fa, fb, if_true, if_false]
      obtain ⟨rfl, rfl⟩ := mb fb
      obtain ⟨rfl, rfl⟩ := oa fa
      have hl := lb fb
      have hbf := (hp.ths b hb).2
      have m1 := mul_mono (c := b.far) (by omega) (show q2 + 1 ≤ p1 by omega)
      have m2 := mul_mono (c := b.far) (by omega) (show q2 + 1 ≤ p2 + 1 by omega)
      have h1 : u / (p2 + 1) < b.far := by rw [div_lt (by omega), Int.mul_comm]; omega
      have h2 : v / p1 < b.far := by rw [div_lt (by omega), Int.mul_comm]; omega
      rw [if_pos (by omega)]
      omega
  · by_cases fb : b.far = 0
    · simp only [fa, fb, if_true, if_false]
      obtain ⟨rfl, rfl⟩ := ma fa
      have hl := la fa
      have haf := (hp.ths a ha).2
      have m1 := mul_mono (c := a.far) (by omega) (show q2 + 1 ≤ p1 by omega)
      have m2 := mul_mono (c := a.far) (by omega) (show q1 ≤ p1 by omega)
      have h1 : a.far ≤ u / (q2 + 1) := by rw [le_div (by omega), Int.mul_comm]; omega
      refine ⟨by omega, ?_⟩
      split
      · have h2 : a.far ≤ v / q1 := by rw [le_div (by omega), Int.mul_comm]; omega
        omega
      · omega
    · simp only [fa, fb, if_false]
      obtain ⟨rfl, rfl⟩ := ma fa
      obtain ⟨rfl, rfl⟩ := mb fb
      have hl := la fa
      have hl2 := lb fb
      have m1 := mul_mono (c := b.far) (by omega) (show q2 + 1 ≤ p1 by omega)
      have h3 : a.far ≤ b.far := by
        by_cases h4 : a.far ≤ b.far
        · exact h4
        · have m2 := Int.mul_le_mul_of_nonneg_left (c := p1) (show b.far ≤ a.far by omega) (by omega)
          omega
      exact ⟨h3, h3⟩
/-! ## Nearer -/
theorem nearer_swap (p : Pr) (a b : Int) : (nearerX p b a).2 = (nearerX p a b).2 := by
  rw [nearer_same, nearer_same]
  unfold nearerR
  cases isPair p <;> cases thingR p a <;> cases thingR p b <;> simp
theorem nearer_err {p : Pr} {a b : Int} (h : ¬ (nearerX p a b).2 = 0) : (nearerX p a b).1 = 0 ∧ ((isPair p = false ∧ (nearerX p a b).2 = 1) ∨ (isPair p = true ∧ (nearerX p a b).2 = 2)) := by
  rw [nearer_same] at h ⊢
  unfold nearerR at h ⊢
  cases hp : isPair p <;> cases ha : thingR p a <;> cases hb : thingR p b <;> simp_all
theorem nearer_ok {p : Pr} {a b : Int} (h : (nearerX p a b).2 = 0) : p.Ok ∧ thingR p a = true ∧ thingR p b = true ∧ (nearerX p a b).1 = nearerS (thingAt p a) (thingAt p b) := by
  rw [nearer_same] at h ⊢
  unfold nearerR at h ⊢
  cases hp : isPair p <;> cases ha : thingR p a <;> cases hb : thingR p b <;> simp_all
  exact isPair_ok hp
theorem shift_le {t : Th} (h : t.Ok) : (shift t).1 ≤ (shift t).2 := by
  obtain ⟨⟨h1, h2, h3⟩, ⟨h4, h5, h6⟩, ⟨h7, h8, h9⟩, ⟨h10, h11, h12⟩⟩ := h
  simp only [shift]
  omega
theorem nearerS_rng (a b : Th) : 0 ≤ nearerS a b ∧ nearerS a b ≤ 2 := by unfold nearerS; split <;> (try split) <;> omega
theorem nearerS_two {a b : Th} : nearerS a b = 2 ↔ (shift b).2 < (shift a).1 := by unfold nearerS; split <;> (try split) <;> omega
theorem nearerS_not {a b : Th} (ha : a.Ok) (hb : b.Ok) (h : nearerS a b = 2) : nearerS b a = 0 := by
  have h1 := nearerS_two.1 h
  have h2 := shift_le ha
  have h3 := shift_le hb
  unfold nearerS
  rw [if_neg (by omega), if_neg (by omega)]
theorem nearerS_trans {a b c : Th} (hb : b.Ok) (h : nearerS a b = 2) (h2 : nearerS b c = 2) : nearerS a c = 2 := by
  rw [nearerS_two] at *
  have := shift_le hb
  omega
theorem nearer_law {p : Pr} {a b : Int} (h : (nearerX p a b).2 = 0) (h2 : (nearerX p a b).1 = 2) (hi : (distX p a).2 = 0) (hj : (distX p b).2 = 0) : (distX p a).1.1 ≤ (distX p b).1.1 ∧ (distX p a).1.2 ≤ (distX p b).1.2 := by
  obtain ⟨hp, ta, tb, he⟩ := nearer_ok h
  obtain ⟨_, _, hw, ia, ea⟩ := dist_ok hi
  obtain ⟨_, _, _, ib, eb⟩ := dist_ok hj
  rw [ea, eb]
  exact nearer_far hp (thingAt_mem ta) (thingAt_mem tb) hw ia ib (nearerS_two.1 (he ▸ h2))
theorem nl1 (p : Pr) (x y : Int) : (!decide ((nearerX p x y).2 = (nearerX p y x).2) || !decide ((nearerX p x y).2 = 0) && (!decide ((nearerX p x y).1 = 0) || !decide ((nearerX p y x).1 = 0))) = false := by
  have h1 := nearer_swap p x y
  by_cases h : (nearerX p x y).2 = 0
  · simp [h1, h]
  · obtain ⟨e1, _⟩ := nearer_err h
    obtain ⟨e2, _⟩ := nearer_err (p := p) (a := y) (b := x) (by rw [h1]; exact h)
    simp [h1, e1, e2]
theorem nl3 {p : Pr} {x y : Int} (h : (nearerX p x y).2 = 0) : (decide ((nearerX p x y).1 < 0) || decide (2 < (nearerX p x y).1) || decide ((nearerX p x y).1 = 2) && !decide ((nearerX p y x).1 = 0) || decide ((nearerX p y x).1 = 2) && !decide ((nearerX p x y).1 = 0) || decide (x = y) && decide ((nearerX p x y).1 = 2)) = false := by
  obtain ⟨hp, tx, ty, e⟩ := nearer_ok h
  obtain ⟨_, _, _, e2⟩ := nearer_ok (p := p) (a := y) (b := x) (by rw [nearer_swap]; exact h)
  have ox := (hp.ths _ (thingAt_mem tx)).1
  have oy := (hp.ths _ (thingAt_mem ty)).1
  rw [e, e2]
  have r1 := nearerS_rng (thingAt p x) (thingAt p y)
  have n1 := nearerS_not ox oy
  have n2 := nearerS_not oy ox
  have n3 : x = y → nearerS (thingAt p x) (thingAt p y) ≠ 2 := by
    rintro rfl h2
    have := n1 h2
    omega
  simp only [Bool.or_eq_false_iff, Bool.and_eq_false_iff, decide_eq_false_iff_not, Bool.not_eq_false', decide_eq_true_eq]
  refine ⟨⟨⟨⟨by omega, by omega⟩, ?_⟩, ?_⟩, ?_⟩
  · by_cases h2 : nearerS (thingAt p x) (thingAt p y) = 2
    · exact .inr (n1 h2)
    · exact .inl h2
  · by_cases h2 : nearerS (thingAt p y) (thingAt p x) = 2
    · exact .inr (n2 h2)
    · exact .inl h2
  · by_cases h2 : x = y
    · exact .inr (n3 h2)
    · exact .inl h2
theorem nl4 {p : Pr} {x y z : Int} (h : (nearerX p x y).2 = 0) : (!decide ((nearerX p y z).2 = (nearerX p x z).2) || decide ((nearerX p y z).2 = 0) && decide ((nearerX p x y).1 = 2) && decide ((nearerX p y z).1 = 2) && !decide ((nearerX p x z).1 = 2)) = false := by
  obtain ⟨hp, tx, ty, e⟩ := nearer_ok h
  have hs : (nearerX p y z).2 = (nearerX p x z).2 := by
    rw [nearer_same, nearer_same]
    unfold nearerR
    rw [tx, ty]
    cases isPair p <;> cases thingR p z <;> simp
  by_cases h2 : (nearerX p y z).2 = 0
  · obtain ⟨_, _, tz, e2⟩ := nearer_ok h2
    obtain ⟨_, _, _, e3⟩ := nearer_ok (hs ▸ h2)
    have oy := (hp.ths _ (thingAt_mem ty)).1
    have tr := nearerS_trans (a := thingAt p x) (c := thingAt p z) oy
    rw [e, e2, e3]
    simp only [hs, decide_true, Bool.not_true, Bool.false_or, Bool.and_eq_false_iff, decide_eq_false_iff_not, Bool.not_eq_false', decide_eq_true_eq]
    by_cases h3 : nearerS (thingAt p x) (thingAt p y) = 2
    · by_cases h4 : nearerS (thingAt p y) (thingAt p z) = 2
      · exact .inr (tr h3 h4)
      · exact .inl (.inr h4)
    · exact .inl (.inl (.inr h3))
  · simp [hs ▸ h2, hs]
theorem nl5 {p : Pr} {x y : Int} (h : ¬ (nearerX p x y).2 = 0) : (decide ((nearerX p x y).2 = 1) == !isPair p) = true ∧ (decide ((nearerX p x y).2 = 1) || decide ((nearerX p x y).2 = 2)) = true := by
  obtain ⟨_, ⟨h1, h2⟩ | ⟨h1, h2⟩⟩ := nearer_err h <;> simp [h1, h2]
theorem nl6 {p : Pr} {x y : Int} (h : (nearerX p x y).2 = 0) : (!decide ((nearerX p x y).1 = 2) || !decide ((distX p x).2 = 0) || !decide ((distX p y).2 = 0) || decide ((distX p x).1.1 ≤ (distX p y).1.1) && decide ((distX p x).1.2 ≤ (distX p y).1.2)) = true := by
  simp only [Bool.or_eq_true, Bool.and_eq_true, Bool.not_eq_true', decide_eq_false_iff_not, decide_eq_true_eq]
  by_cases h1 : (nearerX p x y).1 = 2
  · by_cases h2 : (distX p x).2 = 0
    · by_cases h3 : (distX p y).2 = 0
      · exact .inr (nearer_law h h1 h2 h3)
      · exact .inl (.inr h3)
    · exact .inl (.inl (.inr h2))
  · exact .inl (.inl (.inl h1))
end Go.Pw1
/- Layer 1, plain facts for the law on why a thing moved. -/
set_option linter.unusedSimpArgs false
set_option linter.unusedVariables false
namespace Go.Pw1
open Go Go.Eng
theorem why_ok {p : Pr} {n : Int} (h : (whyX p n).2 = 0) : p.Ok ∧ thingR p n = true ∧ isB (allS p) = true ∧ (whyX p n).1 = whyS p (thingAt p n) (allS p) ∧ shiftX p n = (shift (thingAt p n), 0) ∧ powerX p = (allS p, 0) := by
  rw [shift_same, power_same]
  unfold whyX at h ⊢
  unfold shiftR powerR openR
  rw [truthsX_one] at h ⊢
  cases hp : isPair p with
  | false => simp [hp] at h
  | true =>
    cases ht : thingR p n with
    | false => simp [hp, ht] at h
    | true =>
      cases ha : isB (allS p) with
      | false => simp [hp, ht, ha] at h
      | true => exact ⟨isPair_ok hp, rfl, rfl, by simp, by simp, by simp⟩
theorem why_err {p : Pr} {n : Int} (h : ¬ (whyX p n).2 = 0) : (whyX p n).1 = 0 ∧ (decide ((whyX p n).2 = 1) == !isPair p) = true ∧ ((shiftX p n).2 = (whyX p n).2 ∨ (whyX p n).2 = 4) ∧ ((powerX p).2 = (whyX p n).2 ∨ (whyX p n).2 = 2) := by
  rw [shift_same, power_same]
  unfold whyX at h ⊢
  unfold shiftR powerR openR
  rw [truthsX_one] at h ⊢
  cases hp : isPair p with
  | false => simp
  | true =>
    cases ht : thingR p n with
    | false => simp
    | true =>
      cases ha : isB (allS p) with
      | false => simp
      | true => simp [hp, ht, ha] at h
theorem thingR_rng {p : Pr} {n : Int} (h : thingR p n = true) : 0 ≤ n ∧ n < p.things.length := by
  obtain ⟨k, rfl, hk⟩ := thingR_in h
  omega
theorem why_bad {p : Pr} {n : Int} (h : (((¬(whyX p n).2 = 0 ∨ isPair p = false) ∨ n < 0) ∨ (p.things.length : Int) ≤ n)) : ¬ (whyX p n).2 = 0 := by
  intro h0
  obtain ⟨hp, ht, _⟩ := why_ok h0
  have := thingR_rng ht
  rw [ok_isPair hp] at h
  simp [h0] at h
  omega
theorem levelS_iff {p : Pr} (hp : p.Ok) {t : Th} (ht : t.Ok) : levelS p t = true ↔ ¬ (p.tilt < t.ly.lo - t.ry.hi ∨ p.tilt < t.ry.lo - t.ly.hi) := by
  obtain ⟨⟨h1, h2, h3⟩, ⟨h4, h5, h6⟩, ⟨h7, h8, h9⟩, ⟨h10, h11, h12⟩⟩ := ht
  have t1 := hp.t1
  simp only [levelS, isB, decide_eq_true_eq]
  simp only [nar]
  omega
theorem whyS_rng (p : Pr) (t : Th) (w : Int × Int) : 0 ≤ whyS p t w ∧ whyS p t w ≤ 4 := by
  rw [whyS_eq]
  split
  · omega
  · split
    · omega
    · split
      · omega
      · split <;> omega
theorem land_in {p : Pr} {t : Th} (hw : isB (allS p) = true) (hm : t ∈ p.things) (hf : t.far ≠ 0) : isB (nar (allS p) (powersR p t)) = true :=
  isB_of (inB_nar.2 ⟨isB_iff.1 hw, (allS_in.1 (isB_iff.1 hw)).2 t hm hf⟩)
def RowsP (p : Pr) (t : Th) : Prop := p.tilt < t.ly.lo - t.ry.hi ∨ p.tilt < t.ry.lo - t.ly.hi
def NearP (p : Pr) (s w : Int × Int) : Prop := 2000 < max 0 s.1 ∨ w.2 / p.near < max 0 s.1
def FarP (p : Pr) (s w : Int × Int) : Prop := s.2 < w.1 / p.far ∨ 2000 < w.1 / p.far
theorem why_facts {p : Pr} (hp : p.Ok) {t : Th} (hm : t ∈ p.things) (hw : isB (allS p) = true) :
    (whyS p t (allS p) = 0 → ¬ RowsP p t ∧ 0 ≤ (shift t).2 ∧ (t.far ≠ 0 ∨ (¬ NearP p (shift t) (allS p) ∧ ¬ FarP p (shift t) (allS p)))) ∧ (whyS p t (allS p) = 1 → RowsP p t) ∧ (whyS p t (allS p) = 2 → ¬ RowsP p t ∧ (shift t).2 < 0) ∧
    (whyS p t (allS p) = 3 → ¬ RowsP p t ∧ 0 ≤ (shift t).2 ∧ NearP p (shift t) (allS p) ∧ t.far = 0) ∧ (whyS p t (allS p) = 4 → ¬ RowsP p t ∧ 0 ≤ (shift t).2 ∧ ¬ NearP p (shift t) (allS p) ∧ FarP p (shift t) (allS p) ∧ t.far = 0) := by
  have hth := (hp.ths t hm).1
  have hl := levelS_iff hp hth
  have hsh := shift_le hth
  obtain ⟨w1, w2⟩ := allS_bd hp
  have wi := (isB_iff.1 hw).2
  have n1 := hp.n1
  have n2 := hp.n2
  have hland := land_in hw hm
  rw [whyS_eq]
  by_cases hs : isB (nar (allS p) (powersR p t)) = true
  · rw [if_pos hs]
    refine ⟨fun _ => ?_, fun h => absurd h (by omega), fun h => absurd h (by omega), fun h => absurd h (by omega), fun h => absurd h (by omega)⟩
    obtain ⟨x, hx, hx2⟩ := isB_nar hs
    obtain ⟨z1, z2, st, hb, hlv⟩ := stl_of hp hm (by simp only [InB] at hx; omega) hx2
    refine ⟨hl.1 hlv, ?_, ?_⟩
    · have h1 := st.s0
      have h2 := st.s1
      simp only [shownS, nar] at h1 h2
      omega
    · by_cases hf : t.far = 0
      · right
        obtain ⟨rfl, rfl⟩ := st.other hf
        rw [st.e1] at hx2
        have s0 := st.s0
        have s1 := st.s1
        have s2 := st.s2
        have e1 : (shownS t).1 = max 0 (shift t).1 := by simp only [shownS, nar]; omega
        have e2 : (shownS t).2 = min (shift t).2 2000 := by simp only [shownS, nar]
        simp only [InB] at hx hx2
        rw [e1, e2] at hx2
        rw [e1, e2] at s1
        rw [e1] at s0
        rw [e2] at s2
        unfold NearP FarP
        generalize max 0 (shift t).1 = a1 at *
        refine ⟨?_, ?_⟩
        · have h3 : a1 ≤ (allS p).2 / p.near := by rw [le_div (by omega)]; omega
          omega
        · have h4 : (allS p).1 / p.far < min (shift t).2 2000 + 1 := by rw [div_lt (by omega)]; omega
          omega
      · exact .inl hf
  · rw [if_neg hs]
    have hf : t.far = 0 := by
      by_cases hf : t.far = 0
      · exact hf
      · exact absurd (hland hf) hs
    by_cases hlv : levelS p t = true
    · have hnr := hl.1 hlv
      rw [hlv]
      simp only [Bool.not_true, Bool.false_eq_true, if_false]
      by_cases h2 : (shift t).2 < 0
      · rw [if_pos h2]
        exact ⟨fun h => absurd h (by omega), fun h => absurd h (by omega), fun _ => ⟨hnr, h2⟩, fun h => absurd h (by omega), fun h => absurd h (by omega)⟩
      · rw [if_neg h2]
        by_cases h3 : 2000 < (shift t).1 ∨ (allS p).2 < (shift t).1 * p.near
        · rw [if_pos h3]
          refine ⟨fun h => absurd h (by omega), fun h => absurd h (by omega), fun h => absurd h (by omega), fun _ => ⟨hnr, by omega, ?_, hf⟩, fun h => absurd h (by omega)⟩
          unfold NearP
          rcases h3 with h3 | h3
          · left; omega
          · right
            have h4 : 0 < (shift t).1 := by
              by_cases h5 : 0 < (shift t).1
              · exact h5
              · have := Int.mul_nonpos_of_nonpos_of_nonneg (show (shift t).1 ≤ 0 by omega) (show 0 ≤ p.near by omega)
                omega
            have h5 : max 0 (shift t).1 = (shift t).1 := by omega
            rw [h5, div_lt (by omega)]
            exact h3
        · rw [if_neg h3]
          refine ⟨fun h => absurd h (by omega), fun h => absurd h (by omega), fun h => absurd h (by omega), fun h => absurd h (by omega), fun _ => ⟨hnr, by omega, ?_, ?_, hf⟩⟩
          · unfold NearP
            have h4 : max 0 (shift t).1 ≤ (allS p).2 / p.near := by
              rw [le_div (by omega)]
              by_cases h5 : 0 ≤ (shift t).1
              · rw [show max 0 (shift t).1 = (shift t).1 by omega]; omega
              · rw [show max 0 (shift t).1 = 0 by omega]; omega
            omega
          · have hb : isB (shownS t) = true := by
              simp only [isB, decide_eq_true_eq]
              simp only [shownS, nar]
              omega
            have he : powersR p t = ((shownS t).1 * p.near, ((shownS t).2 + 1) * p.far - 1) := by
              unfold powersR powersS
              rw [if_pos (by rw [hb, hlv]; rfl), if_pos hf]
            have sb := shown_bd hb
            have e1 : (shownS t).1 = max 0 (shift t).1 := by simp only [shownS, nar]; omega
            have e2 : (shownS t).2 = min (shift t).2 2000 := by simp only [shownS, nar]
            have h6 : (shownS t).1 * p.near ≤ (allS p).2 := by
              rw [e1]
              by_cases h5 : 0 ≤ (shift t).1
              · rw [show max 0 (shift t).1 = (shift t).1 by omega]; omega
              · rw [show max 0 (shift t).1 = 0 by omega]; omega
            have h7 : (shownS t).1 * p.near ≤ ((shownS t).2 + 1) * p.far - 1 := by
              have m1 := Int.mul_le_mul (show (shownS t).1 ≤ (shownS t).2 by omega) n2 (by omega) (by omega)
              have m2 : ((shownS t).2 + 1) * p.far = (shownS t).2 * p.far + p.far := by rw [Int.add_mul]; omega
              omega
            have h8 : ((shownS t).2 + 1) * p.far - 1 < (allS p).1 := by
              by_cases h9 : (allS p).1 ≤ ((shownS t).2 + 1) * p.far - 1
              · refine absurd (isB_of (x := max (allS p).1 ((shownS t).1 * p.near)) (inB_nar.2 ⟨?_, ?_⟩)) hs
                · simp only [InB]; omega
                · rw [he]; simp only [InB]; omega
              · omega
            have h9 : (shownS t).2 + 1 ≤ (allS p).1 / p.far := by rw [le_div (by omega)]; omega
            unfold FarP
            rw [e2] at h9
            omega
    · rw [Bool.not_eq_true] at hlv
      rw [hlv]
      simp only [Bool.not_false, if_true]
      have hr : RowsP p t := by
        by_cases hr : RowsP p t
        · exact hr
        · rw [hl.2 hr] at hlv; cases hlv
      exact ⟨fun h => absurd h (by omega), fun _ => hr, fun h => absurd h (by omega), fun h => absurd h (by omega), fun h => absurd h (by omega)⟩
end Go.Pw1
/- Layer 1, plain facts for the law on both ends of a distance. -/
set_option linter.unusedSimpArgs false
set_option linter.unusedVariables false
namespace Go.Pw1
open Go Go.Eng
/-- The pair in which thing n is a landmark that is so far away, or none. -/
def markP (p : Pr) (n : Nat) (z : Int) : Pr := { p with things := p.things.set n { thingAt p n with far := z } }
theorem mark_ok {p : Pr} (hp : p.Ok) {n : Nat} (hn : n < p.things.length) {z : Int} (h1 : p.near ≤ z) (h2 : z ≤ p.far) : (markP p n z).Ok := by
  obtain ⟨f1, f2, f3, b1, b2, b3, t1, t2, n1, n2, n3, hl, ht⟩ := hp
  refine ⟨f1, f2, f3, b1, b2, b3, t1, t2, n1, n2, n3, by simpa [markP] using hl, fun t hm => ?_⟩
  have hta : thingAt p (n : Int) ∈ p.things := by rw [thingAt_eq hn rfl]; exact List.getElem_mem hn
  rcases List.mem_or_eq_of_mem_set hm with hm | rfl
  · exact ht t hm
  · exact ⟨(ht _ hta).1, .inr ⟨h1, h2⟩⟩
theorem powersR_mark (p : Pr) (n : Nat) (z : Int) (t : Th) : powersR (markP p n z) t = powersR p t := rfl
theorem powers0_mark (p : Pr) (n : Nat) (z : Int) : powers0 (markP p n z) = powers0 p := rfl
theorem mem_set_iff {α : Type} {l : List α} {n : Nat} {a t : α} (hn : n < l.length) : (∀ x ∈ l.set n a, x = t → False) ↔ (∀ i (h : i < l.length), i ≠ n → l[i] ≠ t) ∧ a ≠ t := by
  constructor
  · intro h
    refine ⟨fun i hi hne he => h t ?_ rfl, fun he => h a ?_ he⟩
    · rw [List.mem_iff_getElem]
      exact ⟨i, by simpa using hi, by rw [List.getElem_set_ne (Ne.symm hne)]; exact he⟩
    · rw [List.mem_iff_getElem]
      exact ⟨n, by simpa using hn, by simp⟩
  · rintro ⟨h1, h2⟩ x hx rfl
    rw [List.mem_iff_getElem] at hx
    obtain ⟨i, hi, he⟩ := hx
    rw [List.getElem_set] at he
    split at he
    · exact h2 he
    · rename_i hne
      exact h1 i (by simpa using hi) (Ne.symm hne) he
theorem forall_set {α : Type} {l : List α} {n : Nat} {a : α} {P : α → Prop} (hn : n < l.length) : (∀ x ∈ l.set n a, P x) ↔ (∀ i (h : i < l.length), i ≠ n → P l[i]) ∧ P a := by
  constructor
  · intro h
    refine ⟨fun i hi hne => h _ ?_, h a ?_⟩
    · rw [List.mem_iff_getElem]
      exact ⟨i, by simpa using hi, by rw [List.getElem_set_ne (Ne.symm hne)]⟩
    · rw [List.mem_iff_getElem]
      exact ⟨n, by simpa using hn, by simp⟩
  · rintro ⟨h1, h2⟩ x hx
    rw [List.mem_iff_getElem] at hx
    obtain ⟨i, hi, rfl⟩ := hx
    rw [List.getElem_set]
    split
    · exact h2
    · rename_i hne
      exact h1 i (by simpa using hi) (Ne.symm hne)
theorem forall_get {α : Type} {l : List α} {n : Nat} {P : α → Prop} (hn : n < l.length) : (∀ x ∈ l, P x) ↔ (∀ i (h : i < l.length), i ≠ n → P l[i]) ∧ P l[n] := by
  constructor
  · intro h
    exact ⟨fun i hi _ => h _ (List.getElem_mem hi), h _ (List.getElem_mem hn)⟩
  · rintro ⟨h1, h2⟩ x hx
    rw [List.mem_iff_getElem] at hx
    obtain ⟨i, hi, rfl⟩ := hx
    by_cases he : i = n
    · subst he; exact h2
    · exact h1 i hi he
/-- The powers of the pair with a landmark more: those of the pair that suit it. -/
theorem mark_in {p : Pr} {n : Nat} (hn : n < p.things.length) (h0 : (thingAt p n).far = 0) {z : Int} (hz : z ≠ 0) {x : Int} : InB x (allS (markP p n z)) ↔ InB x (allS p) ∧ InB x (powersR p { thingAt p n with far := z }) := by
  have hta : p.things[n] = thingAt p n := (thingAt_eq hn rfl).symm
  rw [allS_in, allS_in, powers0_mark]
  show _ ∧ (∀ t ∈ p.things.set n _, t.far ≠ 0 → InB x (powersR p t)) ↔ _
  rw [forall_set hn, forall_get (P := fun t => t.far ≠ 0 → InB x (powersR p t)) hn, hta]
  constructor
  · rintro ⟨h1, h2, h3⟩
    exact ⟨⟨h1, h2, fun h => absurd h0 h⟩, h3 hz⟩
  · rintro ⟨⟨h1, h2, _⟩, h3⟩
    exact ⟨h1, h2, fun _ => h3⟩
def canS (p : Pr) (n : Nat) (z : Int) : Bool := decide ((powerX (markP p n z)).2 = 0)
theorem power_ok {p : Pr} (hp : p.Ok) : (powerX p).2 = 0 ↔ isB (allS p) = true := by
  rw [power_same]
  unfold powerR openR
  rw [ok_isPair hp]
  cases isB (allS p) <;> simp
theorem shown_far (t : Th) (z : Int) : shownS { t with far := z } = shownS t := rfl
theorem level_far (p : Pr) (t : Th) (z : Int) : levelS p { t with far := z } = levelS p t := rfl
theorem powersR_far {p : Pr} {t : Th} {z : Int} (hz : z ≠ 0) : powersR p { t with far := z } = if isB (shownS t) && levelS p t then ((shownS t).1 * z, ((shownS t).2 + 1) * z - 1) else (1, 0) := by
  unfold powersR
  rw [shown_far, level_far]
  unfold powersS
  rw [if_neg hz]
theorem div_between {u v p1 p2 : Int} (h1 : 0 < p1) (h2 : p1 ≤ p2) (huv : u ≤ v) (hv : p1 * p1 ≤ v) : u / (p2 + 1) + 1 ≤ v / p1 := by
  have hk : p1 ≤ v / p1 := by rw [le_div h1]; exact hv
  have hlt : v < p1 * (v / p1) + p1 := by
    have := Int.emod_lt_of_pos v h1
    have h3 := Int.mul_ediv_add_emod v p1
    omega
  have : u / (p2 + 1) < v / p1 := by
    rw [div_lt (by omega)]
    have h5 := Int.mul_le_mul_of_nonneg_left (show p1 + 1 ≤ p2 + 1 by omega) (show 0 ≤ v / p1 by omega)
    have h6 : v / p1 * (p1 + 1) = p1 * (v / p1) + v / p1 := by rw [Int.mul_add, Int.mul_comm]; omega
    omega
  omega
/-- A thing that stands still, and is no landmark, can be so far away just if this is within its distances. -/
theorem can_iff {p : Pr} (hp : p.Ok) (hw : isB (allS p) = true) {n : Nat} (hn : n < p.things.length) (h0 : (thingAt p n).far = 0) {z : Int} (h1 : p.near ≤ z) (h2 : z ≤ p.far) :
    canS p n z = true ↔ isB (nar (allS p) (powersR p (thingAt p n))) = true ∧ InB z (farS p (thingAt p n) (allS p)) := by
  have n1 := hp.n1
  have n2 := hp.n2
  obtain ⟨w1, w2⟩ := allS_bd hp
  have wi := (isB_iff.1 hw).2
  have hm : thingAt p n ∈ p.things := by rw [thingAt_eq hn rfl]; exact List.getElem_mem hn
  unfold canS
  rw [decide_eq_true_eq, power_ok (mark_ok hp hn h1 h2)]
  constructor
  · intro hb
    obtain ⟨hx, hx2⟩ := (mark_in hn h0 (show z ≠ 0 by omega)).1 (isB_iff.1 hb)
    generalize (allS (markP p n z)).1 = x at hx hx2
    rw [powersR_far (by omega)] at hx2
    by_cases hs : (isB (shownS (thingAt p n)) && levelS p (thingAt p n)) = true
    · rw [if_pos hs] at hx2
      have hb := shown_bd (Bool.and_eq_true _ _ ▸ hs).1
      have he : powersR p (thingAt p n) = ((shownS (thingAt p n)).1 * p.near, ((shownS (thingAt p n)).2 + 1) * p.far - 1) := by
        unfold powersR powersS
        rw [if_pos hs, if_pos h0]
      unfold farS
      rw [if_pos h0, he]
      have hxA := hx
      simp only [InB] at hx hx2 ⊢
      generalize (shownS (thingAt p n)).1 = p1 at *
      generalize (shownS (thingAt p n)).2 = p2 at *
      generalize (allS p).1 = u at *
      generalize (allS p).2 = v at *
      have m1 := Int.mul_le_mul_of_nonneg_left h1 hb.1
      have m2 := Int.mul_le_mul_of_nonneg_left h2 (show 0 ≤ p2 + 1 by omega)
      refine ⟨isB_of (x := x) (inB_nar.2 ⟨hxA, by simp only [InB]; omega⟩), ?_, ?_⟩
      · have : u / (p2 + 1) < z := by rw [div_lt (by omega), Int.mul_comm]; omega
        omega
      · split
        · have : z ≤ v / p1 := by rw [le_div (by omega), Int.mul_comm]; omega
          omega
        · exact h2
    · rw [if_neg hs] at hx2
      simp only [InB] at hx hx2
      omega
  · rintro ⟨hst, hz⟩
    obtain ⟨x, hx, hx2⟩ := isB_nar hst
    obtain ⟨z1, z2, st, hb, hlv⟩ := stl_of hp hm (by simp only [InB] at hx; omega) hx2
    unfold farS at hz
    rw [if_pos h0] at hz
    have s0 := st.s0
    have s1 := st.s1
    have s2 := st.s2
    have hpr : powersR p { thingAt p n with far := z } = ((shownS (thingAt p n)).1 * z, ((shownS (thingAt p n)).2 + 1) * z - 1) := by
      rw [powersR_far (by omega), if_pos (by rw [hb, hlv]; rfl)]
    have key : ∀ y, y = max (allS p).1 ((shownS (thingAt p n)).1 * z) → InB y (allS p) ∧ InB y (powersR p { thingAt p n with far := z }) := by
      intro y hy
      rw [hpr]
      simp only [InB] at hz ⊢
      generalize (shownS (thingAt p n)).1 = p1 at *
      generalize (shownS (thingAt p n)).2 = p2 at *
      generalize (allS p).1 = u at *
      generalize (allS p).2 = v at *
      have g1 : u / (p2 + 1) < z := by omega
      rw [div_lt (by omega), Int.mul_comm] at g1
      have g2 : p1 * z ≤ v := by
        by_cases hp1 : 0 < p1
        · rw [if_pos hp1] at hz
          have : z ≤ v / p1 := by omega
          rw [le_div hp1, Int.mul_comm] at this
          exact this
        · rw [show p1 = 0 by omega]; omega
      have g3 : p1 * z ≤ (p2 + 1) * z - 1 := by
        have := mul_mono (c := z) (by omega) (show p1 ≤ p2 by omega)
        have e : (p2 + 1) * z = p2 * z + z := by rw [Int.add_mul]; omega
        omega
      omega
    exact isB_of ((mark_in hn h0 (show z ≠ 0 by omega)).2 (key _ rfl))
/-- The distances of a thing that stands still are some. -/
theorem far_some {p : Pr} (hp : p.Ok) (hw : isB (allS p) = true) {t : Th} (hm : t ∈ p.things) (h0 : t.far = 0) (hst : isB (nar (allS p) (powersR p t)) = true) :
    p.near ≤ (farS p t (allS p)).1 ∧ (farS p t (allS p)).1 ≤ (farS p t (allS p)).2 ∧ (farS p t (allS p)).2 ≤ p.far := by
  have n1 := hp.n1
  have n2 := hp.n2
  obtain ⟨w1, w2⟩ := allS_bd hp
  have wi := (isB_iff.1 hw).2
  obtain ⟨x, hx, hx2⟩ := isB_nar hst
  obtain ⟨z1, z2, st, hb, hlv⟩ := stl_of hp hm (by simp only [InB] at hx; omega) hx2
  obtain ⟨rfl, rfl⟩ := st.other h0
  rw [st.e1] at hx2
  have s0 := st.s0
  have s1 := st.s1
  have s2 := st.s2
  unfold farS
  rw [if_pos h0]
  simp only [InB] at hx hx2
  generalize (shownS t).1 = p1 at *
  generalize (shownS t).2 = p2 at *
  generalize (allS p).1 = u at *
  generalize (allS p).2 = v at *
  have g1 : u / (p2 + 1) < p.far := by rw [div_lt (by omega), Int.mul_comm]; omega
  refine ⟨by omega, ?_, ?_⟩
  · split
    · rename_i hp1
      have g2 : p.near ≤ v / p1 := by rw [le_div hp1, Int.mul_comm]; omega
      have m := Int.mul_le_mul_of_nonneg_left (show p1 ≤ p.near by omega) s0
      have g3 := div_between (u := u) hp1 s1 wi (by omega)
      omega
    · omega
  · split <;> omega
theorem dist_err {p : Pr} {n : Int} (h : ¬ (whyX p n).2 = 0) : (distX p n).2 = (whyX p n).2 ∧ (distX p n).1 = (0, 0) := by
  rw [dist_same]
  unfold whyX at h ⊢
  unfold distR openR
  rw [truthsX_one] at h ⊢
  cases hp : isPair p with
  | false => simp
  | true =>
    cases ht : thingR p n with
    | false => simp
    | true =>
      cases ha : isB (allS p) with
      | false => simp
      | true => simp [hp, ht, ha] at h
theorem dist_eq {p : Pr} (hp : p.Ok) {n : Int} (ht : thingR p n = true) (hw : isB (allS p) = true) : distX p n = if isB (nar (allS p) (powersR p (thingAt p n))) then (farS p (thingAt p n) (allS p), 0) else ((0, 0), 11) := by
  rw [dist_same]
  unfold distR openR farS
  rw [ok_isPair hp, ht, hw]
  simp only [if_true, ne_eq, not_true_eq_false, if_false]
  split
  · split <;> rfl
  · rfl
theorem whyS_zero (p : Pr) (t : Th) (w : Int × Int) : whyS p t w = 0 ↔ isB (nar w (powersR p t)) = true := by
  rw [whyS_eq]
  constructor
  · intro h
    split at h
    · assumption
    · split at h
      · omega
      · split at h
        · omega
        · split at h <;> omega
  · intro h; rw [if_pos h]
/-- What is known of both ends of a distance. -/
theorem ends_land {p : Pr} (hp : p.Ok) {k : Nat} (hk : k < p.things.length) (hw : isB (allS p) = true) (hy : (whyX p k).1 = whyS p (thingAt p k) (allS p)) (h : ¬ (thingAt p k).far = 0) :
    (whyX p k).1 = 0 ∧ (distX p k).2 = 0 ∧ (distX p k).1 = ((thingAt p k).far, (thingAt p k).far) := by
  have hm : thingAt p k ∈ p.things := by rw [thingAt_eq hk rfl]; exact List.getElem_mem hk
  have ht : thingR p k = true := by simp [thingR, within]; omega
  have hst := land_in hw hm h
  rw [hy, dist_eq hp ht hw, if_pos hst]
  refine ⟨(whyS_zero _ _ _).2 hst, rfl, ?_⟩
  unfold farS
  rw [if_neg h]
theorem ends_moved {p : Pr} (hp : p.Ok) {k : Nat} (hk : k < p.things.length) (hw : isB (allS p) = true) (hy : (whyX p k).1 = whyS p (thingAt p k) (allS p)) (h : (thingAt p k).far = 0) (hd : ¬ (distX p k).2 = 0) :
    1 ≤ (whyX p k).1 ∧ (whyX p k).1 ≤ 4 ∧ (distX p k).2 = 11 ∧ (distX p k).1 = (0, 0) ∧ ∀ z, p.near ≤ z → z ≤ p.far → canS p k z = false := by
  have ht : thingR p k = true := by simp [thingR, within]; omega
  have he := dist_eq hp ht hw
  by_cases hst : isB (nar (allS p) (powersR p (thingAt p k))) = true
  · rw [if_pos hst] at he
    rw [he] at hd
    exact absurd rfl hd
  · rw [if_neg hst] at he
    have h1 := whyS_rng p (thingAt p k) (allS p)
    have h2 : whyS p (thingAt p k) (allS p) ≠ 0 := fun h => hst ((whyS_zero _ _ _).1 h)
    refine ⟨by omega, by omega, by rw [he], by rw [he], fun z g1 g2 => ?_⟩
    rw [Bool.eq_false_iff]
    intro hc
    exact hst ((can_iff hp hw hk h g1 g2).1 hc).1
theorem ends_still {p : Pr} (hp : p.Ok) {k : Nat} (hk : k < p.things.length) (hw : isB (allS p) = true) (hy : (whyX p k).1 = whyS p (thingAt p k) (allS p)) (h : (thingAt p k).far = 0) (hd : (distX p k).2 = 0) :
    (whyX p k).1 = 0 ∧ p.near ≤ (distX p k).1.1 ∧ (distX p k).1.1 ≤ (distX p k).1.2 ∧ (distX p k).1.2 ≤ p.far ∧ ∀ z, p.near ≤ z → z ≤ p.far → canS p k z = (decide ((distX p k).1.1 ≤ z) && decide (z ≤ (distX p k).1.2)) := by
  have hm : thingAt p k ∈ p.things := by rw [thingAt_eq hk rfl]; exact List.getElem_mem hk
  obtain ⟨_, _, _, hst, he⟩ := dist_ok hd
  obtain ⟨f1, f2, f3⟩ := far_some hp hw hm h hst
  rw [he]
  refine ⟨by rw [hy]; exact (whyS_zero _ _ _).2 hst, f1, f2, f3, fun z g1 g2 => ?_⟩
  rw [Bool.eq_iff_iff, can_iff hp hw hk h g1 g2]
  simp only [hst, true_and, Bool.and_eq_true, decide_eq_true_eq]
  rfl
theorem ends_chain {p : Pr} {k : Nat} {y d1 d2 : Int} (hy : y = 0) (h1 : p.near ≤ d1) (h2 : d1 ≤ d2) (h3 : d2 ≤ p.far) (hc : ∀ z, p.near ≤ z → z ≤ p.far → canS p k z = (decide (d1 ≤ z) && decide (z ≤ d2))) :
    (!decide (y = 0) || decide (d1 < p.near) || decide (d2 < d1) || decide (p.far < d2) || !canS p k d1 || !canS p k d2 || decide (p.near < d1) && canS p k (d1 - 1) || decide (d2 < p.far) && canS p k (d2 + 1)) = false := by
  rw [hc d1 h1 (by omega), hc d2 (by omega) h3]
  simp only [Bool.or_eq_false_iff, Bool.and_eq_false_iff, Bool.not_eq_false', decide_eq_true_eq, decide_eq_false_iff_not, Bool.and_eq_true]
  refine ⟨⟨⟨⟨⟨⟨⟨hy, by omega⟩, by omega⟩, by omega⟩, by omega⟩, by omega⟩, ?_⟩, ?_⟩
  · by_cases h : p.near < d1
    · rw [hc (d1 - 1) (by omega) (by omega)]
      simp only [Bool.and_eq_false_iff, decide_eq_false_iff_not]
      omega
    · exact .inl h
  · by_cases h : d2 < p.far
    · rw [hc (d2 + 1) (by omega) (by omega)]
      simp only [Bool.and_eq_false_iff, decide_eq_false_iff_not]
      omega
    · exact .inl h
end Go.Pw1
/- Layer 1, plain facts for the law on pairs that are turned: what only the shifts and the rows decide. -/
set_option linter.unusedSimpArgs false
set_option linter.unusedVariables false
namespace Go.Pw1
open Go Go.Eng
def keyT (t : Th) : (Int × Int) × (Int × Int) × Int := (shift t, (t.ly.lo - t.ry.hi, t.ly.hi - t.ry.lo), t.far)
/-- Two pairs that are told alike. -/
structure Sim (p p' : Pr) : Prop where
  f : p'.focal = p.focal
  b : p'.base = p.base
  tl : p'.tilt = p.tilt
  n : p'.near = p.near
  r : p'.far = p.far
  th : p'.things.map keyT = p.things.map keyT
theorem Sim.len {p p' : Pr} (h : Sim p p') : p'.things.length = p.things.length := by simpa using congrArg List.length h.th
theorem Sim.at {p p' : Pr} (h : Sim p p') (n : Int) : keyT (thingAt p' n) = keyT (thingAt p n) := by
  unfold thingAt
  have h1 := congrArg (fun l => l[n.toNat]?) h.th
  simp only [List.getElem?_map] at h1
  simp only [List.getD_eq_getElem?_getD]
  cases h2 : p'.things[n.toNat]? <;> cases h3 : p.things[n.toNat]? <;> rw [h2, h3] at h1 <;> simp at h1 ⊢
  exact h1
theorem key_shown {t t' : Th} (h : keyT t' = keyT t) : shownS t' = shownS t := by
  have h1 : shift t' = shift t := congrArg (·.1) h
  unfold shownS; rw [h1]
theorem key_level {p p' : Pr} {t t' : Th} (hp : Sim p p') (h : keyT t' = keyT t) : levelS p' t' = levelS p t := by
  have h1 := congrArg (·.2.1.1) h
  have h2 := congrArg (·.2.1.2) h
  simp only [keyT] at h1 h2
  unfold levelS
  rw [h1, h2, hp.tl]
theorem key_powers {p p' : Pr} {t t' : Th} (hp : Sim p p') (h : keyT t' = keyT t) : powersR p' t' = powersR p t := by
  have h3 : t'.far = t.far := congrArg (·.2.2) h
  unfold powersR powersS
  rw [key_shown h, key_level hp h, h3, hp.n, hp.r]
theorem sim_allL {p p' : Pr} (hp : Sim p p') : ∀ (l l' : List Th) (w : Int × Int), l'.map keyT = l.map keyT → allL p' w l' = allL p w l
  | [], [], w, _ => rfl
  | [], _ :: _, _, h => by simp at h
  | _ :: _, [], _, h => by simp at h
  | t :: l, t' :: l', w, h => by
    simp only [List.map_cons, List.cons.injEq] at h
    have h3 : t'.far = t.far := congrArg (·.2.2) h.1
    simp only [allL, h3, key_powers hp h.1]
    split <;> exact sim_allL hp l l' _ h.2
theorem Sim.all {p p' : Pr} (hp : Sim p p') : allS p' = allS p := by
  have h0 : powers0 p' = powers0 p := by unfold powers0; rw [hp.f, hp.b]
  unfold allS
  rw [h0]
  exact sim_allL hp _ _ _ hp.th
theorem Sim.thing {p p' : Pr} (hp : Sim p p') (n : Int) : thingR p' n = thingR p n := by unfold thingR; rw [hp.len]
theorem Sim.power {p p' : Pr} (hp : Sim p p') (h : isPair p = true) (h' : isPair p' = true) : powerX p' = powerX p := by
  rw [power_same, power_same]
  unfold powerR openR
  rw [h, h', hp.all]
theorem Sim.dist {p p' : Pr} (hp : Sim p p') (h : isPair p = true) (h' : isPair p' = true) (n : Int) : distX p' n = distX p n := by
  rw [dist_same, dist_same]
  have hk := hp.at n
  have h3 : (thingAt p' n).far = (thingAt p n).far := congrArg (·.2.2) hk
  unfold distR openR
  rw [h, h', hp.all, hp.thing, hp.n, hp.r]
  simp only [key_powers hp hk, key_shown hk, h3]
theorem Sim.why {p p' : Pr} (hp : Sim p p') (h : isPair p = true) (h' : isPair p' = true) (n : Int) : whyX p' n = whyX p n := by
  rw [why_same, why_same]
  have hk := hp.at n
  have h1 : shift (thingAt p' n) = shift (thingAt p n) := congrArg (·.1) hk
  unfold whyR openR
  rw [h, h', hp.all, hp.thing, hp.n]
  simp only [key_powers hp hk, key_level hp hk, h1]
theorem Sim.withK {p p' : Pr} (hp : Sim p p') (s : Nat) : ∀ k, withK p' s k = withK p s k
  | 0 => hp.all
  | k + 1 => by
    unfold Pw1.withK
    rw [hp.withK s k, key_powers hp (hp.at k)]
theorem Sim.rbest {p p' : Pr} (hp : Sim p p') : ∀ k, rbestK p' k = rbestK p k
  | 0 => rfl
  | k + 1 => by
    unfold rbestK
    rw [hp.rbest k, hp.withK, hp.len]
theorem Sim.few {p p' : Pr} (hp : Sim p p') (h : isPair p = true) (h' : isPair p' = true) : fewestX p' = fewestX p := by
  rw [few_same, few_same]
  unfold rfewX openR
  rw [h, h', hp.all, hp.len, hp.rbest]
  simp only [hp.withK]
def backS (s : Sp) : Sp := ⟨-s.hi, -s.lo⟩
def onS (d : Int) (s : Sp) : Sp := ⟨s.lo + d, s.hi + d⟩
def backT (t : Th) : Th := ⟨backS t.rx, backS t.ry, backS t.lx, backS t.ly, t.far⟩
def onT (d : Int) (t : Th) : Th := ⟨onS d t.lx, t.ly, onS d t.rx, t.ry, t.far⟩
theorem key_back (t : Th) : keyT (backT t) = keyT t := by
  simp only [keyT, backT, backS, shift]
  refine Prod.ext (Prod.ext ?_ ?_) (Prod.ext (Prod.ext ?_ ?_) rfl) <;> simp only <;> omega
theorem key_on (d : Int) (t : Th) : keyT (onT d t) = keyT t := by
  simp only [keyT, onT, onS, shift]
  refine Prod.ext (Prod.ext ?_ ?_) rfl <;> simp only <;> omega
def backP (p : Pr) : Pr := { p with things := p.things.map backT }
def onP (d : Int) (p : Pr) : Pr := { p with things := p.things.map (onT d) }
theorem sim_back (p : Pr) : Sim p (backP p) := ⟨rfl, rfl, rfl, rfl, rfl, by simp only [backP, List.map_map]; exact List.map_congr_left (fun t _ => key_back t)⟩
theorem sim_on (d : Int) (p : Pr) : Sim p (onP d p) := ⟨rfl, rfl, rfl, rfl, rfl, by simp only [onP, List.map_map]; exact List.map_congr_left (fun t _ => key_on d t)⟩
theorem take_map_snoc {α β : Type} {f : α → β} {l : List α} {k : Nat} (hk : k < l.length) {a : α} (ha : l[k] = a) : (l.take k).map f ++ [f a] = (l.take (k + 1)).map f := by
  rw [List.take_succ_eq_append_getElem hk, List.map_append, ha]; rfl
end Go.Pw1
/- Layer 1, plain facts for the law on the fewest things that moved. -/
set_option linter.unusedSimpArgs false
set_option linter.unusedVariables false
namespace Go.Pw1
open Go Go.Eng
/-- The things that are not in a set. -/
def keepL (p : Pr) (s : Nat) : Nat → List Th
  | 0 => []
  | k + 1 => if s.testBit k then keepL p s k else keepL p s k ++ [thingAt p k]
def woP (p : Pr) (s : Nat) : Pr := { p with things := keepL p s p.things.length }
theorem keepL_len (p : Pr) (s : Nat) : ∀ k, (keepL p s k).length ≤ k
  | 0 => Nat.le_refl _
  | k + 1 => by
    have := keepL_len p s k
    unfold keepL
    split
    · omega
    · simp only [List.length_append, List.length_singleton]; omega
theorem keepL_mem {p : Pr} {s : Nat} {t : Th} : ∀ k, t ∈ keepL p s k ↔ ∃ i, i < k ∧ s.testBit i = false ∧ t = thingAt p i
  | 0 => by simp [keepL]
  | k + 1 => by
    have ih := keepL_mem (p := p) (s := s) (t := t) k
    unfold keepL
    cases hb : s.testBit k with
    | true =>
      simp only [if_true, ih]
      constructor
      · rintro ⟨i, hi, h⟩; exact ⟨i, by omega, h⟩
      · rintro ⟨i, hi, h1, h2⟩
        rcases Nat.lt_succ_iff_lt_or_eq.1 hi with h | rfl
        · exact ⟨i, h, h1, h2⟩
        · rw [hb] at h1; cases h1
    | false =>
      simp only [Bool.false_eq_true, if_false, List.mem_append, List.mem_singleton, ih]
      constructor
      · rintro (⟨i, hi, h⟩ | h)
        · exact ⟨i, by omega, h⟩
        · exact ⟨k, by omega, hb, h⟩
      · rintro ⟨i, hi, h1, h2⟩
        rcases Nat.lt_succ_iff_lt_or_eq.1 hi with h | rfl
        · exact .inl ⟨i, h, h1, h2⟩
        · exact .inr h2
theorem wo_ok {p : Pr} (hp : p.Ok) (s : Nat) : (woP p s).Ok := by
  obtain ⟨f1, f2, f3, b1, b2, b3, t1, t2, n1, n2, n3, hl, ht⟩ := hp
  refine ⟨f1, f2, f3, b1, b2, b3, t1, t2, n1, n2, n3, Nat.le_trans (keepL_len p s _) hl, fun t hm => ?_⟩
  obtain ⟨i, hi, _, rfl⟩ := (keepL_mem _).1 hm
  exact ht _ (by rw [thingAt_eq hi rfl]; exact List.getElem_mem hi)
/-- A set that holds no landmark. -/
def NoLand (p : Pr) (s : Nat) : Prop := ∀ i, i < p.things.length → s.testBit i = true → (thingAt p i).far = 0
theorem thing_mem {p : Pr} {i : Nat} (hi : i < p.things.length) : thingAt p i ∈ p.things := by rw [thingAt_eq hi rfl]; exact List.getElem_mem hi
theorem mem_thing {p : Pr} {t : Th} (h : t ∈ p.things) : ∃ i : Nat, i < p.things.length ∧ thingAt p i = t := by
  obtain ⟨i, hi, rfl⟩ := List.getElem_of_mem h
  exact ⟨i, hi, thingAt_eq hi rfl⟩
theorem wo_all {p : Pr} {s : Nat} (hs : NoLand p s) {x : Int} : InB x (allS (woP p s)) ↔ InB x (allS p) := by
  rw [allS_in, allS_in]
  show _ ∧ (∀ t ∈ keepL p s p.things.length, t.far ≠ 0 → InB x (powersR p t)) ↔ _
  constructor
  · rintro ⟨h1, h2⟩
    refine ⟨h1, fun t ht hf => ?_⟩
    obtain ⟨i, hi, rfl⟩ := mem_thing ht
    cases hb : s.testBit i with
    | true => exact absurd (hs i hi hb) hf
    | false => exact h2 _ ((keepL_mem _).2 ⟨i, hi, hb, rfl⟩) hf
  · rintro ⟨h1, h2⟩
    refine ⟨h1, fun t ht hf => ?_⟩
    obtain ⟨i, hi, _, rfl⟩ := (keepL_mem _).1 ht
    exact h2 _ (thing_mem hi) hf
theorem wo_with {p : Pr} {s : Nat} (hs : NoLand p s) {x : Int} : InB x (withK (woP p s) 0 (woP p s).things.length) ↔ InB x (withK p s p.things.length) := by
  rw [with_in, with_in, wo_all hs]
  constructor
  · rintro ⟨h1, h2⟩
    refine ⟨h1, fun i hi hb => ?_⟩
    obtain ⟨j, hj, he⟩ := mem_thing (p := woP p s) (show thingAt p i ∈ (woP p s).things from (keepL_mem _).2 ⟨i, hi, hb, rfl⟩)
    have := h2 j hj (by simp)
    rw [he] at this
    exact this
  · rintro ⟨h1, h2⟩
    refine ⟨h1, fun j hj _ => ?_⟩
    obtain ⟨i, hi, hb, he⟩ := (keepL_mem _).1 (thing_mem (p := woP p s) hj)
    rw [he]
    exact h2 i hi hb
theorem inB_ext {a b : Int × Int} (ha : isB a = true) (h : ∀ x, InB x a ↔ InB x b) : a = b := by
  have h1 := isB_iff.1 ha
  have h2 := (h _).1 h1
  have h3 : InB a.2 a := ⟨h1.2, Int.le_refl _⟩
  have h4 := (h _).1 h3
  have h5 := (h b.1).2 ⟨Int.le_refl _, by simp only [InB] at h2; omega⟩
  have h6 := (h b.2).2 ⟨by simp only [InB] at h2; omega, Int.le_refl _⟩
  simp only [InB] at *
  exact Prod.ext (by omega) (by omega)
theorem few_ok {p : Pr} (hp : p.Ok) (hw : isB (allS p) = true) : fewestX p = ((bestS p (allS p) : Int), withK p (bestS p (allS p)) p.things.length, 0) := by
  rw [few_same]
  unfold rfewX openR
  rw [ok_isPair hp, hw, rbest_eq hw]
  simp
theorem few_err {p : Pr} (h : ¬ (fewestX p).2.2 = 0) : (fewestX p).1 = 0 ∧ (fewestX p).2.1 = (0, 0) ∧ (fewestX p).2.2 = (powerX p).2 ∧ (decide ((fewestX p).2.2 = 1) == !isPair p) = true := by
  rw [few_same] at h ⊢
  rw [power_same]
  unfold rfewX powerR openR at *
  cases hp : isPair p with
  | false => simp
  | true =>
    cases ha : isB (allS p) with
    | false => simp
    | true => simp [hp, ha] at h
theorem few_fine {p : Pr} (h : (fewestX p).2.2 = 0) : p.Ok ∧ isB (allS p) = true := by
  rw [few_same] at h
  unfold rfewX openR at h
  cases hp : isPair p with
  | false => simp [hp] at h
  | true =>
    cases ha : isB (allS p) with
    | false => simp [hp, ha] at h
    | true => exact ⟨isPair_ok hp, rfl⟩
theorem pc_zero : ∀ k, pc 0 k = 0
  | 0 => rfl
  | k + 1 => by show pc 0 k + 0 / 2 ^ k % 2 = 0; rw [pc_zero k]; simp
theorem pc_of_zero {s : Nat} (hs : s < 4096) (h : pc s 12 = 0) : s = 0 := by
  have h1 : ∀ k, k ≤ 12 → pc s k = 0 := by
    intro k hk
    have hm : ∀ j, pc s k ≤ pc s (k + j) := by
      intro j
      induction j with
      | zero => exact Nat.le_refl _
      | succ j ih => show pc s k ≤ pc s (k + j) + _; omega
    have := hm (12 - k)
    rw [show k + (12 - k) = 12 by omega, h] at this
    omega
  apply Nat.eq_of_testBit_eq
  intro i
  rw [Nat.zero_testBit]
  by_cases hi : i < 12
  · have h2 := h1 (i + 1) (by omega)
    have h3 : pc s i + s / 2 ^ i % 2 = 0 := h2
    rw [Nat.testBit_eq_decide_div_mod_eq, decide_eq_false_iff_not]
    omega
  · exact Nat.testBit_lt_two_pow (Nat.lt_of_lt_of_le hs (by have : (2 : Nat) ^ 12 ≤ 2 ^ i := Nat.pow_le_pow_right (by omega) (by omega); omega))
theorem best_zero {p : Pr} (hp : p.Ok) (hw : isB (allS p) = true) : bestS p (allS p) = 0 ↔ Good p 0 := by
  obtain ⟨g1, g2⟩ := best_good hw
  constructor
  · intro h; rw [h] at g1; exact g1
  · intro h
    have h1 := good_le h
    have hl := hp.len
    have hlt : bestS p (allS p) < 4096 := by have : 2 ^ p.things.length ≤ 2 ^ 12 := Nat.pow_le_pow_right (by omega) hl; omega
    refine pc_of_zero hlt ?_
    have := pc_zero 12
    unfold Le at h1
    omega
/-- The best set holds no landmark, but each thing that cannot stand still. -/
theorem best_bits {p : Pr} (hw : isB (allS p) = true) {i : Nat} (hi : i < p.things.length) :
    ((thingAt p i).far ≠ 0 → (bestS p (allS p)).testBit i = false) ∧ (isB (nar (allS p) (powersR p (thingAt p i))) = false → (bestS p (allS p)).testBit i = true) := by
  have key : ∃ x, InB x (allS p) ∧ bestS p (allS p) = movedS p x := by
    obtain ⟨_, _, h3 | ⟨x, hx, h3⟩⟩ := bestL_le p (triedS p (allS p)) (movedS p (allS p).1)
    · exact ⟨_, isB_iff.1 hw, h3⟩
    · exact ⟨x, tried_all hw hx, h3⟩
  obtain ⟨x, hx, he⟩ := key
  rw [he]
  unfold movedS
  rw [moved_bit, decide_eq_true hi, Bool.true_and]
  refine ⟨fun hf => ?_, fun hs => ?_⟩
  · rw [Bool.not_eq_false', still_at]
    exact (allS_in.1 hx).2 _ (thing_mem hi) hf
  · rw [Bool.not_eq_true', Bool.eq_false_iff]
    intro h
    rw [Bool.eq_false_iff] at hs
    exact hs (isB_of (inB_nar.2 ⟨hx, (still_at _ _ _).1 h⟩))
theorem best_noland {p : Pr} (hw : isB (allS p) = true) : NoLand p (bestS p (allS p)) := fun i hi hb => by
  by_cases hf : (thingAt p i).far = 0
  · exact hf
  · rw [(best_bits hw hi).1 hf] at hb; cases hb
theorem wo_some {p : Pr} {s : Nat} (hs : NoLand p s) (hw : isB (allS p) = true) : isB (allS (woP p s)) = true := isB_of ((wo_all hs).2 (isB_iff.1 hw))
theorem wo_good {p : Pr} {s : Nat} (hs : NoLand p s) : Good (woP p s) 0 ↔ Good p s := by
  unfold Good
  constructor
  · intro h; exact isB_of ((wo_with hs).1 (isB_iff.1 h))
  · intro h; exact isB_of ((wo_with hs).2 (isB_iff.1 h))
/-- Without the fewest things, nothing must have moved, and the power is the same. -/
theorem wo_best {p : Pr} (hp : p.Ok) (hw : isB (allS p) = true) : fewestX (woP p (bestS p (allS p))) = (0, withK p (bestS p (allS p)) p.things.length, 0) := by
  have hs := best_noland hw
  have hw2 := wo_some hs hw
  have hg := (best_good hw).1
  have hz := (best_zero (wo_ok hp _) hw2).2 ((wo_good hs).2 hg)
  rw [few_ok (wo_ok hp _) hw2, hz]
  have he : withK (woP p (bestS p (allS p))) 0 (woP p (bestS p (allS p))).things.length = withK p (bestS p (allS p)) p.things.length := inB_ext ((wo_good hs).2 hg) (fun x => wo_with hs)
  rw [he]
  simp
theorem wo_other {p : Pr} (hp : p.Ok) (hw : isB (allS p) = true) {s : Nat} (hs : NoLand p s) : (fewestX (woP p s)).2.2 = 0 ∧ ((fewestX (woP p s)).1 = 0 → Le (bestS p (allS p)) s) := by
  have hw2 := wo_some hs hw
  rw [few_ok (wo_ok hp _) hw2]
  refine ⟨rfl, fun h => ?_⟩
  have h0 : bestS (woP p s) (allS (woP p s)) = 0 := by simpa using h
  exact good_le ((wo_good hs).1 ((best_zero (wo_ok hp _) hw2).1 h0))
/-- The other set, without the landmarks among the first ones. -/
def lessK (p : Pr) (s : Nat) : Nat → Nat
  | 0 => s
  | k + 1 => if (thingAt p k).far = 0 then lessK p s k else andN (lessK p s k) (2 ^ k)
theorem lessK_out {p : Pr} {s k : Nat} {t : Th} (ht : thingAt p k = t) (h : ¬ t.far = 0) : lessK p s (k + 1) = andN (lessK p s k) (2 ^ k) := by simp [lessK, ht, h]
theorem lessK_in {p : Pr} {s k : Nat} {t : Th} (ht : thingAt p k = t) (h : t.far = 0) : lessK p s (k + 1) = lessK p s k := by simp [lessK, ht, h]
theorem lessK_le (p : Pr) (s : Nat) : ∀ k, lessK p s k ≤ s
  | 0 => Nat.le_refl _
  | k + 1 => by
    have h := lessK_le p s k
    have h2 := andN_le (lessK p s k) (2 ^ k)
    unfold lessK
    split <;> omega
theorem lessK_bit (p : Pr) (s : Nat) : ∀ k i, (lessK p s k).testBit i = (s.testBit i && !(decide (i < k) && !decide ((thingAt p i).far = 0)))
  | 0, i => by simp [lessK]
  | k + 1, i => by
    have ih := lessK_bit p s k i
    unfold lessK
    split
    · rename_i h
      rw [ih]
      by_cases he : i = k
      · subst he; simp [h]
      · rw [show decide (i < k + 1) = decide (i < k) from decide_eq_decide.2 (by omega)]
    · rename_i h
      rw [andN_bit, ih, Nat.testBit_two_pow]
      by_cases he : i = k
      · subst he; simp [h]
      · rw [show decide (i < k + 1) = decide (i < k) from decide_eq_decide.2 (by omega), decide_eq_false (p := k = i) (fun e => he e.symm)]; simp
theorem less_noland (p : Pr) (s : Nat) : NoLand p (lessK p s p.things.length) := fun i hi hb => by
  rw [lessK_bit, decide_eq_true hi] at hb
  simp only [Bool.true_and, Bool.not_not, Bool.and_eq_true, decide_eq_true_eq] at hb
  exact hb.2
theorem keepL_in {p : Pr} {s k : Nat} {t : Th} (ht : thingAt p k = t) (h : s.testBit k = false) : keepL p s (k + 1) = keepL p s k ++ [t] := by simp [keepL, h, ht]
theorem keepL_out {p : Pr} {s k : Nat} (h : s.testBit k = true) : keepL p s (k + 1) = keepL p s k := by simp [keepL, h]
theorem bit_zero {s k : Nat} (h : ((s >>> k &&& 1 : Nat) : Int) = 0) : s.testBit k = false := by
  have h2 : s >>> k &&& 1 = 0 := by exact_mod_cast h
  rw [Nat.testBit, Nat.and_comm, h2]; rfl
theorem bit_one {s k : Nat} (h : ¬ ((s >>> k &&& 1 : Nat) : Int) = 0) : s.testBit k = true := by
  have h2 : ¬ s >>> k &&& 1 = 0 := fun e => h (by exact_mod_cast e)
  rw [Nat.testBit, Nat.and_comm, bne_iff_ne]
  exact h2
theorem bit_dec (s k : Nat) : decide (((s >>> k &&& 1 : Nat) : Int) = 1) = s.testBit k := by
  have h1 : s >>> k &&& 1 = (s.testBit k).toNat := by
    rw [Nat.testBit, Nat.and_comm]
    have : 1 &&& s >>> k = s >>> k % 2 := by rw [Nat.and_comm]; exact Nat.and_one_is_mod _
    rw [this]
    rcases Nat.mod_two_eq_zero_or_one (s >>> k) with h | h <;> rw [h] <;> rfl
  rw [h1]
  cases s.testBit k <;> rfl
theorem why_fine {p : Pr} (hp : p.Ok) (hw : isB (allS p) = true) {n : Int} (ht : thingR p n = true) : (whyX p n).2 = 0 ∧ (whyX p n).1 = whyS p (thingAt p n) (allS p) := by
  unfold whyX
  rw [truthsX_one, ok_isPair hp, ht, hw]
  exact ⟨rfl, rfl⟩
theorem few_c4 {p : Pr} (hw : isB (allS p) = true) {k : Nat} (hk : k < p.things.length) {e y f : Int} (he : e = 0) (hy : y = whyS p (thingAt p k) (allS p)) (hf : (thingAt p k).far = f) {m : Nat} (hm : bestS p (allS p) = m) :
    (!decide (e = 0) || (!decide (y = 0) || !decide (f = 0)) && !(decide (((m >>> k &&& 1 : Nat) : Int) = 1) == !decide (y = 0))) = false := by
  obtain ⟨b1, b2⟩ := best_bits hw hk
  rw [bit_dec, he]
  rw [hm] at b1 b2
  rw [hf] at b1
  by_cases h0 : y = 0
  · by_cases h1 : f = 0
    · simp [h0, h1]
    · rw [b1 h1, h0]; simp
  · have hs : isB (nar (allS p) (powersR p (thingAt p k))) = false := by
      rw [Bool.eq_false_iff]
      intro h
      exact h0 (by rw [hy]; exact (whyS_zero _ _ _).2 h)
    rw [b2 hs]
    simp [h0]
theorem le_out {m s : Nat} (h : Le m s) : (decide (((pc m 12 : Nat) : Int) < ((pc s 12 : Nat) : Int)) || decide (((pc s 12 : Nat) : Int) = ((pc m 12 : Nat) : Int)) && decide ((m : Int) ≤ (s : Int))) = true := by
  unfold Le at h
  simp only [Bool.or_eq_true, Bool.and_eq_true, decide_eq_true_eq]
  omega
end Go.Pw1
/- Layer 5, plain facts for YearsAlike. -/
set_option linter.unusedSimpArgs false
set_option linter.unusedVariables false
namespace Go.Pw1
open Go Go.Eng
theorem farS_rng {p : Pr} {n : Int} (h : (distX p n).2 = 0) : 2000 ≤ (distX p n).1.1 ∧ (distX p n).1.1 ≤ 1073741824 ∧ 2000 ≤ (distX p n).1.2 ∧ (distX p n).1.2 ≤ 1073741824 ∧ (distX p n).1.1 ≤ (distX p n).1.2 := by
  obtain ⟨hp, ht, hw, hst, he⟩ := dist_ok h
  have hm := thingAt_mem ht
  have n1 := hp.n1
  have n2 := hp.n2
  have n3 := hp.n3
  rw [he]
  by_cases h0 : (thingAt p n).far = 0
  · have h1 := far_some hp hw hm h0 hst
    obtain ⟨x, hx1, hx2⟩ := isB_nar hst
    unfold farS at h1 ⊢
    rw [if_pos h0] at h1 ⊢
    simp only at h1 ⊢
    split at h1 <;> split <;> omega
  · unfold farS
    rw [if_neg h0]
    rcases (hp.ths _ hm).2 with h1 | h1
    · exact absurd h1 h0
    · simp only; omega
theorem mv_rng {g : Gl} {i : Nat} (h : seenG g i = true) : -1073741824 ≤ (mvZ g i).1 ∧ (mvZ g i).1 ≤ (mvZ g i).2 ∧ (mvZ g i).2 ≤ 1073741824 := by
  simp only [seenG, Bool.and_eq_true, decide_eq_true_eq] at h
  have h1 := farS_rng h.1
  have h2 := farS_rng h.2
  simp only [mvZ, movedZ, lessZ, farG]
  omega
theorem open_true {g : Gl} {v : Bool} {u : Unit} (h : openG g v = .ok u) (w : Bool) : openG g w = if w then .ok () else .error 2 := by
  unfold openG at h ⊢
  split at h
  · rename_i hf
    rw [if_pos hf]
    split at h
    · split at h
      · split at h
        · rename_i h1 h2 h3
          simp [h2, h3]
        · cases h
      · cases h
    · cases h
  · cases h
theorem isThing_of {g : Gl} {i : Nat} (hi : i < g.f.things.length) : isThingG g i = true := by simp [isThingG, within]; omega
theorem gMoved_at {g : Gl} {v : Bool} {u : Unit} (h : openG g v = .ok u) {i : Nat} (hi : i < g.f.things.length) : gMoved g i = if seenG g i then (mvZ g i, 0) else ((0, 0), 11) := by
  unfold gMoved askG
  rw [open_true h, isThing_of hi]
  rfl
/-- What the law's own function says of a set. -/
def okB (g : Gl) (s k : Nat) : Bool := (List.range k).all fun i => !s.testBit i || decide ((gMoved g i).2 = 0)
def loK (g : Gl) (s : Nat) : Nat → Int
  | 0 => -1073741824
  | k + 1 => if s.testBit k then max (loK g s k) (gMoved g k).1.1 else loK g s k
def hiK (g : Gl) (s : Nat) : Nat → Int
  | 0 => 1073741824
  | k + 1 => if s.testBit k then min (hiK g s k) (gMoved g k).1.2 else hiK g s k
def alR (g : Gl) (even : Int) (s : Nat) : Bool × Nat :=
  if okB g s g.f.things.length then (decide ((pc s g.f.things.length : Int) = 0) || decide (loK g s g.f.things.length ≤ hiK g s g.f.things.length + even), pc s g.f.things.length) else (false, 0)
theorem okB_iff {g : Gl} {s k : Nat} : okB g s k = true ↔ ∀ i, i < k → s.testBit i = true → (gMoved g i).2 = 0 := by
  simp only [okB, List.all_eq_true, List.mem_range, Bool.or_eq_true, Bool.not_eq_true', decide_eq_true_eq]
  constructor
  · intro h i hi hb
    rcases h i hi with h | h
    · rw [hb] at h; cases h
    · exact h
  · intro h i hi
    cases hb : s.testBit i with
    | false => exact .inl rfl
    | true => exact .inr (h i hi hb)
theorem okB_no {g : Gl} {s k m : Nat} (hk : k < m) (hb : s.testBit k = true) (h : ¬ (gMoved g k).2 = 0) : okB g s m = false := by
  cases ho : okB g s m with
  | false => rfl
  | true => exact absurd (okB_iff.1 ho k hk hb) h
theorem loK_le {g : Gl} {s : Nat} {x : Int} : ∀ k, loK g s k ≤ x ↔ -1073741824 ≤ x ∧ ∀ i, i < k → s.testBit i = true → (gMoved g i).1.1 ≤ x
  | 0 => by simp [loK]
  | k + 1 => by
    unfold loK
    split
    · rename_i hb
      rw [Int.max_le, loK_le k]
      constructor
      · rintro ⟨⟨h1, h2⟩, h3⟩
        exact ⟨h1, fun i hi hb => by rcases Nat.lt_succ_iff_lt_or_eq.1 hi with h | rfl; exact h2 i h hb; exact h3⟩
      · rintro ⟨h1, h2⟩
        exact ⟨⟨h1, fun i hi => h2 i (by omega)⟩, h2 k (by omega) hb⟩
    · rename_i hb
      rw [loK_le k]
      constructor
      · rintro ⟨h1, h2⟩
        exact ⟨h1, fun i hi hb' => by rcases Nat.lt_succ_iff_lt_or_eq.1 hi with h | rfl; exact h2 i h hb'; exact absurd hb' hb⟩
      · rintro ⟨h1, h2⟩
        exact ⟨h1, fun i hi => h2 i (by omega)⟩
theorem hiK_ge {g : Gl} {s : Nat} {x : Int} : ∀ k, x ≤ hiK g s k ↔ x ≤ 1073741824 ∧ ∀ i, i < k → s.testBit i = true → x ≤ (gMoved g i).1.2
  | 0 => by simp [hiK]
  | k + 1 => by
    unfold hiK
    split
    · rename_i hb
      rw [Int.le_min, hiK_ge k]
      constructor
      · rintro ⟨⟨h1, h2⟩, h3⟩
        exact ⟨h1, fun i hi hb => by rcases Nat.lt_succ_iff_lt_or_eq.1 hi with h | rfl; exact h2 i h hb; exact h3⟩
      · rintro ⟨h1, h2⟩
        exact ⟨⟨h1, fun i hi => h2 i (by omega)⟩, h2 k (by omega) hb⟩
    · rename_i hb
      rw [hiK_ge k]
      constructor
      · rintro ⟨h1, h2⟩
        exact ⟨h1, fun i hi hb' => by rcases Nat.lt_succ_iff_lt_or_eq.1 hi with h | rfl; exact h2 i h hb'; exact absurd hb' hb⟩
      · rintro ⟨h1, h2⟩
        exact ⟨h1, fun i hi => h2 i (by omega)⟩
theorem hiK_hit {g : Gl} {s : Nat} : ∀ k, hiK g s k = 1073741824 ∨ ∃ i, i < k ∧ s.testBit i = true ∧ hiK g s k = (gMoved g i).1.2
  | 0 => .inl rfl
  | k + 1 => by
    unfold hiK
    split
    · rename_i hb
      rcases Int.le_total (hiK g s k) (gMoved g k).1.2 with h | h
      · rw [Int.min_eq_left h]
        rcases hiK_hit k with h | ⟨i, h1, h2, h3⟩
        · exact .inl h
        · exact .inr ⟨i, by omega, h2, h3⟩
      · rw [Int.min_eq_right h]
        exact .inr ⟨k, by omega, hb, rfl⟩
    · rcases hiK_hit k with h | ⟨i, h1, h2, h3⟩
      · exact .inl h
      · exact .inr ⟨i, by omega, h2, h3⟩
theorem pc_eq_of {a b : Nat} (h : ∀ i, a.testBit i = true → b.testBit i = true) : ∀ k, pc a k = pc b k → ∀ i, i < k → a.testBit i = b.testBit i
  | 0, _, i, hi => by omega
  | k + 1, he, i, hi => by
    have h1 := pc_mono h k
    have h2 := h k
    have h3 : pc a k + a / 2 ^ k % 2 = pc b k + b / 2 ^ k % 2 := he
    have h5 := Nat.testBit_eq_decide_div_mod_eq (x := a) (i := k)
    have h6 := Nat.testBit_eq_decide_div_mod_eq (x := b) (i := k)
    rw [h5, h6, decide_eq_true_eq, decide_eq_true_eq] at h2
    have h4 : a / 2 ^ k % 2 ≤ b / 2 ^ k % 2 := by
      generalize a / 2 ^ k = u at *
      generalize b / 2 ^ k = v at *
      omega
    rcases Nat.lt_succ_iff_lt_or_eq.1 hi with h7 | rfl
    · exact pc_eq_of h k (by omega) i h7
    · rw [h5, h6]
      have : a / 2 ^ i % 2 = b / 2 ^ i % 2 := by omega
      rw [this]
theorem lt_bits {a k : Nat} (h : a < 2 ^ k) {i : Nat} (hi : k ≤ i) : a.testBit i = false := Nat.testBit_lt_two_pow (Nat.lt_of_lt_of_le h (Nat.pow_le_pow_right (by decide) hi))
theorem pc_full {s k : Nat} (h : s < 2 ^ k) (hk : k ≤ 12) : pc s k = pc s 12 := by
  have h1 := pc_done (s := s) (k := k) (Nat.div_eq_of_lt h) (12 - k)
  rw [Nat.add_sub_cancel' hk] at h1
  exact h1.symm
theorem pc_pos {s k : Nat} (h : pc s k = 0) : ∀ i, i < k → s.testBit i = false := by
  have h0 : ∀ k, pc 0 k = 0 := fun k => by
    induction k with
    | zero => rfl
    | succ k ih => show pc 0 k + 0 / 2 ^ k % 2 = 0; rw [ih]; simp
  intro i hi
  have := pc_eq_of (a := 0) (b := s) (fun i hi => by simp at hi) k (by rw [h0, h]) i hi
  rw [← this]; simp
/-- The order of offers. -/
def Ge (s u : Nat) : Prop := pc u 12 < pc s 12 ∨ (pc u 12 = pc s 12 ∧ s ≤ u)
theorem Ge.trans {a b c : Nat} (h : Ge a b) (h2 : Ge b c) : Ge a c := by unfold Ge at *; omega
theorem offer_ge (b s : Nat) : Ge (offerS b s) b ∧ Ge (offerS b s) s ∧ (offerS b s = b ∨ offerS b s = s) := by
  unfold offerS
  split
  · refine ⟨?_, ?_, .inr rfl⟩ <;> unfold Ge <;> omega
  · refine ⟨?_, ?_, .inl rfl⟩ <;> unfold Ge <;> omega
theorem alikeL_is (g : Gl) (even : Int) (l : List Nat) : (∀ i ∈ l, Ge (alikeL g even l) (alikeS g even i)) ∧ ((alikeL g even l = 0 ∧ l = []) ∨ alikeL g even l = 0 ∨ ∃ i ∈ l, alikeL g even l = alikeS g even i) := by
  have key : ∀ (l : List Nat) (b : Nat), Ge (l.foldl (fun b i => offerS b (alikeS g even i)) b) b ∧ (∀ i ∈ l, Ge (l.foldl (fun b i => offerS b (alikeS g even i)) b) (alikeS g even i)) ∧ (l.foldl (fun b i => offerS b (alikeS g even i)) b = b ∨ ∃ i ∈ l, l.foldl (fun b i => offerS b (alikeS g even i)) b = alikeS g even i) := by
    intro l
    induction l with
    | nil => intro b; exact ⟨.inr ⟨rfl, Nat.le_refl _⟩, by simp, .inl rfl⟩
    | cons i l ih =>
      intro b
      obtain ⟨h1, h2, h3⟩ := ih (offerS b (alikeS g even i))
      obtain ⟨o1, o2, o3⟩ := offer_ge b (alikeS g even i)
      rw [List.foldl_cons]
      refine ⟨h1.trans o1, fun j hj => ?_, ?_⟩
      · rcases List.mem_cons.1 hj with rfl | hj
        · exact h1.trans o2
        · exact h2 j hj
      · rcases h3 with h3 | ⟨j, hj, h3⟩
        · rcases o3 with o3 | o3
          · exact .inl (h3.trans o3)
          · exact .inr ⟨i, by simp, h3.trans o3⟩
        · exact .inr ⟨j, by simp [hj], h3⟩
  obtain ⟨_, h2, h3⟩ := key l 0
  refine ⟨h2, .inr ?_⟩
  rcases h3 with h3 | h3
  · exact .inl h3
  · exact .inr h3
theorem alikeS_bit {g : Gl} {even : Int} {i j : Nat} : (alikeS g even i).testBit j = true ↔ (j < g.f.things.length ∧ seenG g j = true) ∧ (mvZ g i).2 ≤ (mvZ g j).2 ∧ (mvZ g j).1 ≤ (mvZ g i).2 + even := by
  rw [alikeS, setL_bit]
  simp only [Bool.and_eq_true, decide_eq_true_eq, seenL_mem]
/-- Sets of things that are all seen, and whose moves meet. -/
def AlikeP (g : Gl) (even : Int) (s : Nat) : Prop := (∀ j, s.testBit j = true → j < g.f.things.length ∧ seenG g j = true) ∧ ∀ j k, s.testBit j = true → s.testBit k = true → (mvZ g j).1 ≤ (mvZ g k).2 + even
theorem alikeS_p {g : Gl} {even : Int} (i : Nat) : AlikeP g even (alikeS g even i) := ⟨fun j hj => (alikeS_bit.1 hj).1, fun j k hj hk => by
  have h1 := (alikeS_bit.1 hj).2
  have h2 := (alikeS_bit.1 hk).2
  omega⟩
theorem alikeL_p {g : Gl} {even : Int} (l : List Nat) : AlikeP g even (alikeL g even l) := by
  have h0 : AlikeP g even 0 := ⟨fun j hj => by simp at hj, fun j k hj => by simp at hj⟩
  rcases (alikeL_is g even l).2 with ⟨h, _⟩ | h | ⟨i, _, h⟩
  · rw [h]; exact h0
  · rw [h]; exact h0
  · rw [h]; exact alikeS_p i
theorem AlikeP.below {g : Gl} {even : Int} {s : Nat} (h : AlikeP g even s) (hs : ∃ j, s.testBit j = true) : ∃ i ∈ seenL g, ∀ j, s.testBit j = true → (alikeS g even i).testBit j = true := by
  have key : ∀ m, (∃ j, j < m ∧ s.testBit j = true) → ∃ i, s.testBit i = true ∧ ∀ j, j < m → s.testBit j = true → (mvZ g i).2 ≤ (mvZ g j).2 := by
    intro m
    induction m with
    | zero => rintro ⟨j, hj, _⟩; omega
    | succ m ih =>
      rintro ⟨j, hj, hb⟩
      by_cases hm : ∃ j, j < m ∧ s.testBit j = true
      · obtain ⟨i, hi, hle⟩ := ih hm
        by_cases hmb : s.testBit m = true
        · rcases Int.le_total (mvZ g i).2 (mvZ g m).2 with h1 | h1
          · exact ⟨i, hi, fun j hj hb => by rcases Nat.lt_succ_iff_lt_or_eq.1 hj with h | rfl; exact hle j h hb; exact h1⟩
          · exact ⟨m, hmb, fun j hj hb => by rcases Nat.lt_succ_iff_lt_or_eq.1 hj with h | rfl; exact Int.le_trans h1 (hle j h hb); exact Int.le_refl _⟩
        · exact ⟨i, hi, fun j hj hb => by rcases Nat.lt_succ_iff_lt_or_eq.1 hj with h | rfl; exact hle j h hb; exact absurd hb hmb⟩
      · have hjm : j = m := by
          rcases Nat.lt_succ_iff_lt_or_eq.1 hj with h | h
          · exact absurd ⟨j, h, hb⟩ hm
          · exact h
        subst hjm
        exact ⟨j, hb, fun k hk hkb => by
          rcases Nat.lt_succ_iff_lt_or_eq.1 hk with h | rfl
          · exact absurd ⟨k, h, hkb⟩ hm
          · exact Int.le_refl _⟩
  obtain ⟨j, hj⟩ := hs
  obtain ⟨i, hi, hle⟩ := key g.f.things.length ⟨j, (h.1 j hj).1, hj⟩
  refine ⟨i, seenL_mem.2 (h.1 i hi), fun k hk => alikeS_bit.2 ⟨h.1 k hk, hle k (h.1 k hk).1 hk, h.2 k i hk hi⟩⟩
/-- No other set that can has more things, nor as many and a lesser number. -/
theorem alike_best {g : Gl} {even : Int} (hl : g.f.things.length ≤ 12) {s : Nat} (h : AlikeP g even s) : Ge (alikeL g even (seenL g)) s := by
  have hs : ∀ {s : Nat}, AlikeP g even s → s < 2 ^ 12 := fun {s} h => Nat.lt_pow_two_of_testBit _ (fun i hi => by
    cases hb : s.testBit i with
    | false => rfl
    | true => have := (h.1 i hb).1; omega)
  by_cases h0 : ∃ j, s.testBit j = true
  · obtain ⟨i, hi, hsub⟩ := h.below h0
    have h1 := (alikeL_is g even (seenL g)).1 i hi
    have h2 := pc_mono hsub 12
    unfold Ge at h1 ⊢
    by_cases he : pc s 12 = pc (alikeS g even i) 12
    · have h3 := pc_eq_of hsub 12 he
      have h4 : s = alikeS g even i := Nat.eq_of_testBit_eq (fun j => by
        by_cases hj : j < 12
        · exact h3 j hj
        · rw [lt_bits (hs h) (by omega), lt_bits (hs (alikeS_p i)) (by omega)])
      rw [h4]; exact h1
    · omega
  · have : s = 0 := Nat.eq_of_testBit_eq (fun j => by
      cases hb : s.testBit j with
      | false => simp
      | true => exact absurd ⟨j, hb⟩ h0)
    subst this
    have hp : ∀ k, pc 0 k = 0 := fun k => by
      induction k with
      | zero => rfl
      | succ k ih => show pc 0 k + 0 / 2 ^ k % 2 = 0; rw [ih]; simp
    unfold Ge
    by_cases he : pc (alikeL g even (seenL g)) 12 = 0
    · have h1 := pc_pos he
      have h2 : alikeL g even (seenL g) = 0 := Nat.eq_of_testBit_eq (fun j => by
        by_cases hj : j < 12
        · rw [h1 j hj]; simp
        · rw [lt_bits (hs (alikeL_p _)) (by omega)]; simp)
      rw [h2]; exact .inr ⟨rfl, Nat.le_refl _⟩
    · left; rw [hp]; omega
/-- What the law's own function says of such sets. -/
theorem alR_of {g : Gl} {even e2 : Int} {v : Bool} {u : Unit} (ho : openG g v = .ok u) (hl : g.f.things.length ≤ 12) {s : Nat} (h : AlikeP g even s) : alR g e2 s = (decide ((pc s 12 : Int) = 0) || decide (loK g s g.f.things.length ≤ hiK g s g.f.things.length + e2), pc s 12) ∧ (even ≤ e2 → (alR g e2 s).1 = true) := by
  have hs : s < 2 ^ g.f.things.length := Nat.lt_pow_two_of_testBit _ (fun i hi => by
    cases hb : s.testBit i with
    | false => rfl
    | true => have := (h.1 i hb).1; omega)
  have hok : okB g s g.f.things.length = true := okB_iff.2 (fun i hi hb => by rw [gMoved_at ho hi, (h.1 i hb).2]; rfl)
  have h1 : alR g e2 s = (decide ((pc s 12 : Int) = 0) || decide (loK g s g.f.things.length ≤ hiK g s g.f.things.length + e2), pc s 12) := by
    unfold alR
    rw [hok, if_pos rfl, pc_full hs hl]
  refine ⟨h1, fun he => ?_⟩
  rw [h1]
  simp only [Bool.or_eq_true, decide_eq_true_eq]
  by_cases h0 : (pc s 12 : Int) = 0
  · exact .inl h0
  · right
    have gm : ∀ i, s.testBit i = true → gMoved g i = (mvZ g i, 0) ∧ seenG g i = true := fun i hb => by rw [gMoved_at ho (h.1 i hb).1, (h.1 i hb).2]; exact ⟨rfl, rfl⟩
    rcases hiK_hit (g := g) (s := s) g.f.things.length with h2 | ⟨k, hk, hkb, h2⟩
    · exfalso
      apply h0
      have hz : ∀ i, s.testBit i = false ∨ (mvZ g i).2 = 1073741824 := fun i => by
        cases hb : s.testBit i with
        | false => exact .inl rfl
        | true =>
          right
          have h3 := ((hiK_ge (g := g) (s := s) (x := 1073741824) g.f.things.length).1 (by omega)).2 i (h.1 i hb).1 hb
          rw [(gm i hb).1] at h3
          have h4 := mv_rng (gm i hb).2
          simp only at h3
          omega
      by_cases hx : ∃ j, s.testBit j = true
      · obtain ⟨j, hj⟩ := hx
        exfalso
        have h5 := (hz j).resolve_left (by rw [hj]; simp)
        obtain ⟨hf, _⟩ := h.1 j hj
        have h6 := (h.1 j hj).2
        simp only [seenG, Bool.and_eq_true, decide_eq_true_eq] at h6
        have h7 := farS_rng h6.1
        have h8 := farS_rng h6.2
        simp only [mvZ, movedZ, lessZ, farG] at h5
        omega
      · have h9 : s = 0 := Nat.eq_of_testBit_eq (fun j => by
          cases hb : s.testBit j with
          | false => simp
          | true => exact absurd ⟨j, hb⟩ hx)
        subst h9
        decide
    · rw [h2, (gm k hkb).1]
      refine (loK_le (g := g) (s := s) g.f.things.length).2 ⟨?_, fun i hi hb => ?_⟩
      · have h3 := mv_rng (gm k hkb).2
        have h4 := h.2 k k hkb hkb
        simp only
        omega
      · rw [(gm i hb).1]
        have := h.2 i k hb hkb
        simp only
        omega
theorem alR_yes {g : Gl} {even : Int} {v : Bool} {u : Unit} (ho : openG g v = .ok u) {s : Nat} (hs : s < 2 ^ g.f.things.length) (h : (alR g even s).1 = true) (hne : pc s g.f.things.length ≠ 0 ∨ True) : okB g s g.f.things.length = true ∧ ((pc s g.f.things.length = 0 ∧ s = 0) ∨ AlikeP g even s) := by
  unfold alR at h
  split at h
  · rename_i hok
    refine ⟨hok, ?_⟩
    have gm : ∀ i, s.testBit i = true → i < g.f.things.length ∧ gMoved g i = (mvZ g i, 0) ∧ seenG g i = true := fun i hb => by
      have hi : i < g.f.things.length := by
        rcases Nat.lt_or_ge i g.f.things.length with h | h
        · exact h
        · rw [lt_bits hs h] at hb; cases hb
      have h1 := okB_iff.1 hok i hi hb
      rw [gMoved_at ho hi] at h1 ⊢
      cases hse : seenG g i with
      | true => exact ⟨hi, rfl, rfl⟩
      | false => rw [hse] at h1; simp at h1
    simp only [Bool.or_eq_true, decide_eq_true_eq] at h
    rcases h with h | h
    · left
      have h0 : pc s g.f.things.length = 0 := by omega
      refine ⟨h0, Nat.eq_of_testBit_eq (fun j => ?_)⟩
      cases hb : s.testBit j with
      | false => simp
      | true => rw [pc_pos h0 j (gm j hb).1] at hb; cases hb
    · right
      refine ⟨fun j hj => ⟨(gm j hj).1, (gm j hj).2.2⟩, fun j k hj hk => ?_⟩
      have h1 := (loK_le (g := g) (s := s) g.f.things.length).1 (Int.le_refl _)
      have h2 := (hiK_ge (g := g) (s := s) g.f.things.length).1 (Int.le_refl _)
      have h3 := h1.2 j (gm j hj).1 hj
      have h4 := h2.2 k (gm k hk).1 hk
      rw [(gm j hj).2.1] at h3
      rw [(gm k hk).2.1] at h4
      simp only at h3 h4
      omega
  · cases h
end Go.Pw1
/- Walks of the laws of layer 5: YearsAlike. -/
set_option linter.unusedSimpArgs false
set_option linter.unusedVariables false
namespace Go.Proofs.Ytjijeeadmhpfcaa
open Go Go.Eng Go.Pw1

theorem gMoved_bd (g : Gl) (n : Int) : (-1100000000 ≤ (gMoved g n).1.1 ∧ (gMoved g n).1.1 ≤ 1100000000) ∧ -1100000000 ≤ (gMoved g n).1.2 ∧ (gMoved g n).1.2 ≤ 1100000000 := by
  unfold gMoved
  rw [ask_see]
  split
  · rename_i h
    obtain ⟨-, hs, hz⟩ := seeG_ok h
    rw [hz]
    exact movedZ_bd (farG_ok g n)
  · simp
theorem loK_in {g : Gl} {s k : Nat} (h : s.testBit k = true) : loK g s (k + 1) = max (loK g s k) (gMoved g k).1.1 := by simp [loK, h]
theorem loK_out {g : Gl} {s k : Nat} (h : s.testBit k = false) : loK g s (k + 1) = loK g s k := by simp [loK, h]
theorem hiK_in {g : Gl} {s k : Nat} (h : s.testBit k = true) : hiK g s (k + 1) = min (hiK g s k) (gMoved g k).1.2 := by simp [hiK, h]
theorem hiK_out {g : Gl} {s k : Nat} (h : s.testBit k = false) : hiK g s (k + 1) = hiK g s k := by simp [hiK, h]
theorem pc_in {s k : Nat} (h : s.testBit k = true) : pc s (k + 1) = pc s k + 1 := by
  rw [Nat.testBit_eq_decide_div_mod_eq, decide_eq_true_eq] at h
  show pc s k + s / 2 ^ k % 2 = _
  rw [h]
theorem pc_out {s k : Nat} (h : s.testBit k = false) : pc s (k + 1) = pc s k := by
  rw [Nat.testBit_eq_decide_div_mod_eq, decide_eq_false_iff_not] at h
  show pc s k + s / 2 ^ k % 2 = _
  omega
theorem alk_calls (g : Gl) (a : Ga) (even : Int) (s : Nat) (hs : s < 4294967296) (b2 b3 : Nat) (W : World) (hb : W.heap[b2]? = some (.cells (g.cells a).toArray 28 (0, 0))) (he : W.heap[b3]? = some (.cells [.int .i64 even].toArray 3 (0, 0))) (hG : GIn W g a) (hl : g.f.things.length ≤ 30) (hev : 0 ≤ even ∧ even ≤ 1073741824) :
    Calls Try.prog 31 #[.int .i64 (s : Int), .pointer (some ⟨b2, 0, none⟩), .pointer (some ⟨b3, 0, none⟩)] W (Pure (.tuple #[.bool (alR g even s).1, .int .i64 ((alR g even s).2 : Int)]) W) := by
  have hhi := (hiK_ge (g := g) (s := s) (x := -1100000000) g.f.things.length).2 ⟨by omega, fun i _ _ => (gMoved_bd g i).2.1⟩
  have hhi2 := ((hiK_ge (g := g) (s := s) g.f.things.length).1 (Int.le_refl _)).1
  refine calls_start Try.func31 rfl rfl ?_
  refine RunC.seq ?_
  refine RunC.region ?_
  refine RunL.val (Val.pure rfl) rfl rfl rfl ?_
  refine RunL.val (Val.pure rfl) rfl rfl rfl ?_
  refine RunL.nil ?_
  refine RunE.next ?_
  refine RunC.seq ?_
  refine RunC.region ?_
  iterate 3 refine RunL.val (Val.pure rfl) rfl rfl rfl ?_
  refine RunL.nil ?_
  refine RunE.next ?_
  refine RunC.seq ?_
  refine RunC.seq ?_
  refine RunC.region ?_
  refine RunL.val (Val.fieldAddr rfl fld_28_0) rfl rfl rfl ?_
  refine RunL.val (Val.fieldAddr rfl fld_26_5) rfl rfl rfl ?_
  refine RunL.val (Val.oload_one rfl hb (by simp) ty_24 rfl) rfl rfl rfl ?_
  refine RunL.val (Val.len_sl rfl sl_24) rfl rfl rfl ?_
  refine RunL.val (Val.pure rfl) rfl rfl rfl ?_
  refine RunL.nil ?_
  refine RunE.next ?_
  refine RunC.block ?_
  refine RunC.loopK (g.f.things.length) (fun k q => (16, .int .i64 (k : Int)) :: (6, .int .i64 (loK g s k)) :: (7, .int .i64 (hiK g s k)) :: (8, .int .i64 ((pc s k : Nat) : Int)) :: q) (fun _ => _) (fun _ => []) (fun k => ∀ i, i < k → s.testBit i = true → (gMoved g i).2 = 0) (fun i hi => by omega) rfl (Sub.consE (t := 16) rfl rfl (Sub.consE (t := 6) rfl rfl (Sub.consE (t := 7) rfl rfl (Sub.consE (t := 8) rfl rfl (Sub.cons (t := 0) rfl (Sub.cons (t := 1) rfl (Sub.cons (t := 2) rfl (Sub.cons (t := 15) rfl (Sub.nil _))))))))) .nil ?_
  intro k kN kI
  refine RunC.seq ?_
  refine RunC.region ?_
  refine RunL.val (Val.pure rfl) rfl rfl rfl ?_
  refine RunL.nil ?_
  refine RunE.next ?_
  refine RunC.seq ?_
  refine RunC.cond rfl ?_ ?_
  · intro c0
    have c0' := c0; clear c0
    try simp only [decide_eq_true_eq, decide_eq_false_iff_not, Bool.not_eq_true', Bool.not_eq_false', Bool.and_eq_true, Bool.or_eq_true, Bool.and_eq_false_iff, Bool.or_eq_false_iff, Int.not_le, Int.not_lt] at c0'
    have hk : k < g.f.things.length := by omega
    have hpk := pc_le s k
    refine RunC.skip ?_
    refine RunE.next ?_
    refine RunC.seq ?_
    refine RunC.block ?_
    refine RunC.seq ?_
    refine RunC.region ?_
    refine RunL.val (Val.pure rfl) rfl rfl rfl ?_
    refine RunL.val (Val.pure rfl) rfl rfl rfl ?_
    refine RunL.nil ?_
    refine RunE.next ?_
    refine RunC.seq ?_
    refine RunC.seq ?_
    refine RunC.region ?_
    refine RunL.val (Val.pure rfl) rfl rfl rfl ?_
    refine RunL.val (Val.pure rfl) rfl rfl rfl ?_
    refine RunL.val (Val.shrN (a := s) (b := k) rfl rfl (by show k ≤ 64; omega)) rfl rfl rfl ?_
    refine RunL.val (Val.and (a := s >>> k) (b := 1) rfl rfl (by have := Nat.shiftRight_le s k; show _ < 18446744073709551616; omega) (by decide) (i64_inN (by have := Nat.and_le_right (n := s >>> k) (m := 1); omega))) rfl rfl rfl ?_
    refine RunL.val (Val.pure rfl) rfl rfl rfl ?_
    refine RunL.nil ?_
    refine RunE.next ?_
    refine RunC.cond rfl ?_ ?_
    · intro c1
      have c1' := c1; clear c1
      try simp only [decide_eq_true_eq, decide_eq_false_iff_not, Bool.not_eq_true', Bool.not_eq_false', Bool.and_eq_true, Bool.or_eq_true, Bool.and_eq_false_iff, Bool.or_eq_false_iff, Int.not_le, Int.not_lt] at c1'
      have hbit := bit_zero c1'
      refine RunC.exit ?_
      refine RunE.pass_exit ?_
      refine RunE.block_here ?_
      refine RunE.next ?_
      refine RunC.region ?_
      refine RunL.val (Val.add rfl rfl (IntWalk.i64_in _ ⟨by omega, by omega⟩)) rfl rfl rfl ?_
      refine RunL.val (Val.pure rfl) rfl rfl rfl ?_
      refine RunL.nil ?_
      exact RunE.round (by omega) (fun i hi hb => by rcases Nat.lt_succ_iff_lt_or_eq.1 hi with h | rfl; exact kI i h hb; first | exact hmk | (rw [hbit] at hb; cases hb)) rfl (Sub.consE (t := 16) rfl rfl (Sub.consE (t := 6) rfl (by first | rw [loK_out hbit] | rw [loK_in hbit]) (Sub.consE (t := 7) rfl (by first | rw [hiK_out hbit] | rw [hiK_in hbit]) (Sub.consE (t := 8) rfl (by first | rw [pc_out hbit] | (rw [pc_in hbit]; rfl)) (Sub.cons (t := 0) rfl (Sub.cons (t := 1) rfl (Sub.cons (t := 2) rfl (Sub.cons (t := 15) rfl (Sub.nil _))))))))) .nil
    · intro c1
      have c1' := c1; clear c1
      try simp only [decide_eq_true_eq, decide_eq_false_iff_not, Bool.not_eq_true', Bool.not_eq_false', Bool.and_eq_true, Bool.or_eq_true, Bool.and_eq_false_iff, Bool.or_eq_false_iff, Int.not_le, Int.not_lt] at c1'
      have hbit := bit_one c1'
      refine RunC.skip ?_
      refine RunE.next ?_
      refine RunC.seq ?_
      refine RunC.region ?_
      refine RunL.val (Val.oload_agg rfl hb (by simp) ty_28 rfl) rfl rfl rfl ?_
      refine RunL.val (Val.pure rfl) rfl rfl rfl ?_
      refine RunL.callP (isCall_func rfl ent_11) rfl rfl rfl (fun w hm => yMoved_calls g a k w (hG.mono hm)) ?_
      iterate 3 refine RunL.val (Val.pure rfl) rfl rfl rfl ?_
      refine RunL.new (New.alloc zero_23) rfl rfl rfl (fun b10 => ?_)
      refine RunL.sto (Sto.store rfl rfl .here ty_23 rfl rfl) rfl rfl ?_
      refine RunL.val (Val.pure rfl) rfl rfl rfl ?_
      refine RunL.nil ?_
      refine RunE.next ?_
      refine RunC.seq ?_
      refine RunC.seq ?_
      refine RunC.region ?_
      refine RunL.val (Val.pure rfl) rfl rfl rfl ?_
      refine RunL.val (Val.pure rfl) rfl rfl rfl ?_
      refine RunL.nil ?_
      refine RunE.next ?_
      refine RunC.cond rfl ?_ ?_
      · intro c2
        have c2' := c2; clear c2
        try simp only [decide_eq_true_eq, decide_eq_false_iff_not, Bool.not_eq_true', Bool.not_eq_false', Bool.and_eq_true, Bool.or_eq_true, Bool.and_eq_false_iff, Bool.or_eq_false_iff, Int.not_le, Int.not_lt] at c2'
        have hno := okB_no hk hbit c2'
        refine RunC.seq ?_
        refine RunC.region ?_
        refine RunL.val (Val.pure rfl) rfl rfl rfl ?_
        refine RunL.val (Val.pure rfl) rfl rfl rfl ?_
        refine RunL.nil ?_
        refine RunE.next ?_
        refine RunC.ret ?_
        refine RunE.pass_ret ?_
        refine RunE.block_ret ?_
        refine RunE.pass_ret ?_
        refine RunE.pass_ret ?_
        refine RunE.block_ret ?_
        refine RunE.pass_ret ?_
        exact RunE.retP (.r2 rfl (.tmp rfl) (.tmp rfl)) (by simp [alR, hno])
      · intro c2
        have c2' := c2; clear c2
        try simp only [decide_eq_true_eq, decide_eq_false_iff_not, Bool.not_eq_true', Bool.not_eq_false', Bool.and_eq_true, Bool.or_eq_true, Bool.and_eq_false_iff, Bool.or_eq_false_iff, Int.not_le, Int.not_lt] at c2'
        have hmk : (gMoved g k).2 = 0 := by simpa using c2'
        refine RunC.skip ?_
        refine RunE.next ?_
        refine RunC.draw 12 fol_ (.cons .here rfl .nil) ?_
        refine RunA.val (i := 0) rfl (by kernel_rfl) (by kernel_rfl) (Val.pure rfl) rfl rfl rfl (fun _ _ _ h => h) (.cons .here rfl .nil) rfl ?_
        refine RunA.val (i := 1) rfl (by kernel_rfl) (by kernel_rfl) (Val.fieldAddr rfl fld_23_0) rfl rfl rfl (fun _ _ _ h => h) (.cons .here rfl .nil) rfl ?_
        refine RunA.val (i := 2) rfl (by kernel_rfl) (by kernel_rfl) (Val.load_one rfl (.head _) ty_3 rfl) rfl rfl rfl (fun _ _ _ h => h) (.cons .here rfl .nil) rfl ?_
        refine RunA.val (i := 3) rfl (by kernel_rfl) (by kernel_rfl) (Val.max rfl rfl) rfl rfl rfl (fun _ _ _ h => h) (.cons .here rfl .nil) rfl ?_
        refine RunA.val (i := 4) rfl (by kernel_rfl) (by kernel_rfl) (Val.pure rfl) rfl rfl rfl (fun _ _ _ h => h) (.cons .here rfl .nil) rfl ?_
        refine RunA.val (i := 5) rfl (by kernel_rfl) (by kernel_rfl) (Val.fieldAddr rfl fld_23_1) rfl rfl rfl (fun _ _ _ h => h) (.cons .here rfl .nil) rfl ?_
        refine RunA.val (i := 6) rfl (by kernel_rfl) (by kernel_rfl) (Val.load_one rfl (.head _) ty_3 rfl) rfl rfl rfl (fun _ _ _ h => h) (.cons .here rfl .nil) rfl ?_
        refine RunA.val (i := 7) rfl (by kernel_rfl) (by kernel_rfl) (Val.min rfl rfl) rfl rfl rfl (fun _ _ _ h => h) (.cons .here rfl .nil) rfl ?_
        refine RunA.val (i := 8) rfl (by kernel_rfl) (by kernel_rfl) (Val.pure rfl) rfl rfl rfl (fun _ _ _ h => h) (.cons .here rfl .nil) rfl ?_
        refine RunA.val (i := 9) rfl (by kernel_rfl) (by kernel_rfl) (Val.add rfl rfl (IntWalk.i64_in _ ⟨by omega, by omega⟩)) rfl rfl rfl (fun _ _ _ h => h) (.cons .here rfl .nil) rfl ?_
        refine RunA.val (i := 10) rfl (by kernel_rfl) (by kernel_rfl) (Val.pure rfl) rfl rfl rfl (fun _ _ _ h => h) (.cons .here rfl .nil) rfl ?_
        refine RunA.val (i := 11) rfl (by kernel_rfl) (by kernel_rfl) (Val.pure rfl) rfl rfl rfl (fun _ _ _ h => h) (.cons .here rfl .nil) rfl ?_
        refine RunA.toB (by kernel_rfl) ?_
        refine RunB.one (i := 12) (by kernel_rfl) ?_
        refine RunI.val rfl (Val.pure rfl) rfl rfl rfl (RunK.toB ?_)
        refine RunB.done (by kernel_rfl) ?_
        refine RunE.block_normal ?_
        refine RunE.next ?_
        refine RunC.region ?_
        refine RunL.val (Val.add rfl rfl (IntWalk.i64_in _ ⟨by omega, by omega⟩)) rfl rfl rfl ?_
        refine RunL.val (Val.pure rfl) rfl rfl rfl ?_
        refine RunL.nil ?_
        exact RunE.round (by omega) (fun i hi hb => by rcases Nat.lt_succ_iff_lt_or_eq.1 hi with h | rfl; exact kI i h hb; first | exact hmk | (rw [hbit] at hb; cases hb)) rfl (Sub.consE (t := 16) rfl rfl (Sub.consE (t := 6) rfl (by first | rw [loK_out hbit] | rw [loK_in hbit]) (Sub.consE (t := 7) rfl (by first | rw [hiK_out hbit] | rw [hiK_in hbit]) (Sub.consE (t := 8) rfl (by first | rw [pc_out hbit] | (rw [pc_in hbit]; rfl)) (Sub.cons (t := 0) rfl (Sub.cons (t := 1) rfl (Sub.cons (t := 2) rfl (Sub.cons (t := 15) rfl (Sub.nil _))))))))) .nil
  · intro c0
    have c0' := c0; clear c0
    try simp only [decide_eq_true_eq, decide_eq_false_iff_not, Bool.not_eq_true', Bool.not_eq_false', Bool.and_eq_true, Bool.or_eq_true, Bool.and_eq_false_iff, Bool.or_eq_false_iff, Int.not_le, Int.not_lt] at c0'
    obtain rfl : k = g.f.things.length := by omega
    have hok := okB_iff.2 kI
    refine RunC.exit ?_
    refine RunE.pass_exit ?_
    refine RunE.pass_exit ?_
    refine RunE.block_here ?_
    refine RunE.next ?_
    refine RunC.seq ?_
    refine RunC.region ?_
    iterate 3 refine RunL.val (Val.pure rfl) rfl rfl rfl ?_
    refine RunL.orPart (dj := 45) (dp := 51) 6 rfl (fun g45 => by
      have g45' := g45
      try simp only [decide_eq_true_eq, decide_eq_false_iff_not, Bool.not_eq_true', Bool.not_eq_false', Bool.and_eq_true, Bool.or_eq_true, Bool.and_eq_false_iff, Bool.or_eq_false_iff, Int.not_le, Int.not_lt] at g45'
      refine RunL.val (Val.pure rfl) rfl rfl rfl ?_
      refine RunL.val (Val.pure rfl) rfl rfl rfl ?_
      refine RunL.val (Val.oload_one rfl he (by simp) ty_3 rfl) rfl rfl rfl ?_
      refine RunL.val (Val.add rfl rfl (IntWalk.i64_in _ ⟨by omega, by omega⟩)) rfl rfl rfl ?_
      refine RunL.val (Val.pure rfl) rfl rfl rfl ?_
      refine RunL.val (Val.pure rfl) rfl rfl rfl ?_
      exact RunL.segEnd (Sub.cons rfl (Sub.skip rfl (Sub.skip rfl (Sub.skip rfl (Sub.skip rfl (Sub.skip rfl (Sub.skip rfl (Sub.same rfl (by rw [g45]) (Sub.refl _))))))))) (List.Sublist.refl _)
    ) (fun g45 => by
      have g45' := g45
      try simp only [decide_eq_true_eq, decide_eq_false_iff_not, Bool.not_eq_true', Bool.not_eq_false', Bool.and_eq_true, Bool.or_eq_true, Bool.and_eq_false_iff, Bool.or_eq_false_iff, Int.not_le, Int.not_lt] at g45'
      iterate 5 refine RunL.no rfl rfl rfl ?_
      refine RunL.val (Val.pure rfl) rfl rfl rfl ?_
      exact RunL.segEnd (Sub.cons rfl (Sub.skip rfl (Sub.skip rfl (Sub.skip rfl (Sub.skip rfl (Sub.skip rfl (Sub.skip rfl (Sub.same rfl (by rw [g45]) (Sub.refl _))))))))) (List.Sublist.refl _)
    ) ?_
    iterate 3 refine RunL.val (Val.pure rfl) rfl rfl rfl ?_
    refine RunL.nil ?_
    refine RunE.next ?_
    refine RunC.ret ?_
    exact RunE.retP (.r2 rfl (.tmp rfl) (.tmp rfl)) (by simp [alR, hok])
theorem alike_ok {g : Gl} {even : Int} (h : (gAlike g even).2 = 0) : openG g (within even 0 1073741824) = .ok () ∧ gAlike g even = (((alikeL g even (seenL g) : Nat) : Int), 0) ∧ (0 ≤ even ∧ even ≤ 1073741824) ∧ glacierR g = true := by
  unfold gAlike at h ⊢
  cases ho : openG g (within even 0 1073741824) with
  | error k => rw [ho] at h; exact absurd h (open_err0 ho)
  | ok u =>
    have h2 := (openG_ok ho).2
    simp only [within, Bool.and_eq_true, decide_eq_true_eq] at h2
    refine ⟨rfl, rfl, h2, ?_⟩
    rw [openR5_eq] at ho
    split at ho
    · rename_i h3
      unfold openR5 at h3
      split at h3
      · assumption
      · cases h3
    · cases ho
theorem openR5_err (g : Gl) (v : Bool) (h : ¬ openR5 g v = 0) : (decide (openR5 g v = 1) == !glacierR g) = true := by
  unfold openR5 at h ⊢
  rw [← power_same, ← power_same] at h ⊢
  cases hg : glacierR g with
  | false => simp
  | true =>
    rw [hg] at h
    simp only [if_true] at h ⊢
    cases v with
    | false => simp
    | true =>
      simp only [if_true] at h ⊢
      rw [glacierR_eq] at hg
      simp only [Bool.and_eq_true, Bool.not_eq_true', decide_eq_false_iff_not] at hg
      split
      · have := hg.2; simp [this]
      · have := hg.1.2; simp [this]
theorem open_err {g : Gl} {v : Bool} {k : Int} (h : openG g v = .error k) : (decide (k = 1) == !glacierR g) = true := by
  rw [openR5_eq] at h
  split at h
  · cases h
  · rename_i h2
    have h3 := openR5_err g v h2
    rwa [Except.error.inj h] at h3
theorem alike_err {g : Gl} {even : Int} (h : ¬ (gAlike g even).2 = 0) : (gAlike g even).1 = 0 ∧ (decide ((gAlike g even).2 = 1) == !glacierR g) = true := by
  unfold gAlike at h ⊢
  cases ho : openG g (within even 0 1073741824) with
  | error k => exact ⟨rfl, open_err ho⟩
  | ok u => rw [ho] at h; exact absurd rfl h
theorem alike_c3 {g : Gl} {even : Int} (ho : openG g (within even 0 1073741824) = .ok ()) (hl : g.f.things.length ≤ 12) {own s : Nat} (hs : alikeL g even (seenL g) = s) (hown : own < 2 ^ g.f.things.length) :
    ((alR g even own).1 && (decide (((alR g even s).2 : Int) < ((alR g even own).2 : Int)) || (decide (((alR g even own).2 : Int) = ((alR g even s).2 : Int)) && decide ((own : Int) < (s : Int))))) = false := by
  cases h1 : (alR g even own).1 with
  | false => rfl
  | true =>
    have hp := alikeL_p (g := g) (even := even) (seenL g)
    rw [hs] at hp
    have h2 := (alR_of (e2 := even) ho hl hp).1
    have hown12 := pc_full hown hl
    obtain ⟨hok, h3⟩ := alR_yes ho hown h1 (.inr trivial)
    have h4 : (alR g even own).2 = pc own 12 := by unfold alR; rw [if_pos hok]; exact hown12
    rw [h4, h2]
    simp only [Bool.true_and, Bool.or_eq_false_iff, Bool.and_eq_false_iff, decide_eq_false_iff_not]
    rcases h3 with ⟨h5, h6⟩ | h3
    · rw [hown12] at h5
      subst h6
      rw [h5]
      refine ⟨by omega, ?_⟩
      by_cases h7 : pc s 12 = 0
      · right
        have h8 := pc_pos h7
        have hs12 : s < 2 ^ 12 := Nat.lt_pow_two_of_testBit _ (fun i hi => by
          cases hb : s.testBit i with
          | false => rfl
          | true => have := (hp.1 i hb).1; omega)
        have : s = 0 := Nat.eq_of_testBit_eq (fun j => by
          by_cases hj : j < 12
          · rw [h8 j hj]; simp
          · rw [lt_bits hs12 (by omega)]; simp)
        omega
      · left; omega
    · have h5 := alike_best hl h3
      rw [hs] at h5
      unfold Ge at h5
      constructor
      · omega
      · rcases Nat.lt_or_ge own s with h6 | h6
        · left; omega
        · right; omega
theorem alike_c4 {g : Gl} {even e2 : Int} (ho : openG g (within even 0 1073741824) = .ok ()) (hl : g.f.things.length ≤ 12) {s s2 : Nat} (hs : alikeL g even (seenL g) = s) (hs2 : alikeL g e2 (seenL g) = s2) (he : even ≤ e2) : ((alR g even s).2 : Int) ≤ ((alR g even s2).2 : Int) := by
  have hp := alikeL_p (g := g) (even := even) (seenL g)
  have hp2 := alikeL_p (g := g) (even := e2) (seenL g)
  rw [hs] at hp
  rw [hs2] at hp2
  rw [(alR_of (e2 := even) ho hl hp).1, (alR_of (e2 := even) ho hl hp2).1]
  have h : AlikeP g e2 s := ⟨hp.1, fun j k hj hk => by have := hp.2 j k hj hk; omega⟩
  have h2 := alike_best hl h
  rw [hs2] at h2
  unfold Ge at h2
  simp only
  omega
theorem alikeP_lt {g : Gl} {even : Int} {s : Nat} (h : AlikeP g even s) : s < 2 ^ g.f.things.length := Nat.lt_pow_two_of_testBit _ (fun i hi => by
  cases hb : s.testBit i with
  | false => rfl
  | true => have := (h.1 i hb).1; omega)
theorem and_lt_pow (o n : Nat) : o &&& (2 ^ n - 1) < 2 ^ n := by
  have h1 := Nat.and_le_right (n := o) (m := 2 ^ n - 1)
  have := Nat.two_pow_pos n
  omega
set_option maxHeartbeats 1000000 in
theorem alikeLaw_calls (g : Gl) (a : Ga) (even : Int) (o m : Nat) (ho16 : o ≤ 65535) (hm8 : m ≤ 255) (W : World) (hS : GSl W g a) : Calls Try.prog 6 #[g.v a, .int .i64 even, .int .u16 (o : Int), .int .u8 (m : Int)] W (Pure (.bool true) W) := by
  refine calls_start Try.func6 rfl rfl ?_
  refine RunC.seq ?_
  refine RunC.region ?_
  refine RunL.new (New.box rfl) rfl rfl rfl (fun b4 => ?_)
  refine RunL.new (New.box rfl) rfl rfl rfl (fun b5 => ?_)
  refine RunL.val (Val.pure rfl) rfl rfl rfl ?_
  refine RunL.nil ?_
  refine RunE.next ?_
  refine RunC.seq ?_
  refine RunC.seq ?_
  refine RunC.region ?_
  refine RunL.val (Val.load_agg rfl (.tail _ (.head _)) ty_28 rfl) rfl rfl rfl ?_
  refine RunL.callP (isCall_func rfl ent_9) rfl rfl rfl (fun w hm => great_calls g a 12 w (hS.mono hm)) ?_
  refine RunL.nil ?_
  refine RunE.next ?_
  refine RunC.cond rfl ?_ ?_
  · intro c0
    have c0' := c0; clear c0
    try simp only [decide_eq_true_eq, decide_eq_false_iff_not, Bool.not_eq_true', Bool.not_eq_false', Bool.and_eq_true, Bool.or_eq_true, Bool.and_eq_false_iff, Bool.or_eq_false_iff, Int.not_le, Int.not_lt] at c0'
    refine RunC.seq ?_
    refine RunC.region ?_
    refine RunL.callP (isCall_func rfl ent_10) rfl rfl rfl (fun w hm => alive_calls w) ?_
    refine RunL.val (Val.pure rfl) rfl rfl rfl ?_
    refine RunL.nil ?_
    refine RunE.next ?_
    refine RunC.ret ?_
    refine RunE.pass_ret ?_
    exact RunE.retP (.r1 rfl (.tmp rfl)) (by first | rfl | simp)
  · intro c0
    have c0' := c0; clear c0
    try simp only [decide_eq_true_eq, decide_eq_false_iff_not, Bool.not_eq_true', Bool.not_eq_false', Bool.and_eq_true, Bool.or_eq_true, Bool.and_eq_false_iff, Bool.or_eq_false_iff, Int.not_le, Int.not_lt] at c0'
    obtain ⟨hG, hl1, hl2⟩ := great_no c0' hS
    refine RunC.skip ?_
    refine RunE.next ?_
    refine RunC.seq ?_
    refine RunC.region ?_
    refine RunL.val (Val.load_agg rfl (.tail _ (.head _)) ty_28 rfl) rfl rfl rfl ?_
    refine RunL.val (Val.load_one rfl (.head _) ty_3 rfl) rfl rfl rfl ?_
    refine RunL.callP (isCall_func rfl ent_20) rfl rfl rfl (fun w hm => yAlike_calls g a even w (hG.mono hm)) ?_
    iterate 5 refine RunL.val (Val.pure rfl) rfl rfl rfl ?_
    refine RunL.nil ?_
    refine RunE.next ?_
    refine RunC.seq ?_
    refine RunC.seq ?_
    refine RunC.region ?_
    refine RunL.val (Val.pure rfl) rfl rfl rfl ?_
    refine RunL.val (Val.pure rfl) rfl rfl rfl ?_
    refine RunL.nil ?_
    refine RunE.next ?_
    refine RunC.cond rfl ?_ ?_
    · intro c1
      have c1' := c1; clear c1
      try simp only [decide_eq_true_eq, decide_eq_false_iff_not, Bool.not_eq_true', Bool.not_eq_false', Bool.and_eq_true, Bool.or_eq_true, Bool.and_eq_false_iff, Bool.or_eq_false_iff, Int.not_le, Int.not_lt] at c1'
      obtain ⟨he1, he2⟩ := alike_err c1'
      refine RunC.seq ?_
      refine RunC.region ?_
      iterate 3 refine RunL.val (Val.pure rfl) rfl rfl rfl ?_
      refine RunL.sure (dj := 34) true rfl (by simp [he1]) ?_
      refine RunL.val (Val.pure rfl) rfl rfl rfl ?_
      refine RunL.val (Val.pure rfl) rfl rfl rfl ?_
      refine RunL.val (Val.load_agg rfl (.tail _ (.head _)) ty_28 rfl) rfl rfl rfl ?_
      refine RunL.callP (isCall_func rfl ent_23) rfl rfl rfl (fun w hm => rGlacier_calls g a w (hG.mono hm)) ?_
      refine RunL.val (Val.pure rfl) rfl rfl rfl ?_
      refine RunL.val (Val.eql_bool rfl rfl boolB_4) rfl rfl rfl ?_
      refine RunL.val (Val.pure rfl) rfl rfl rfl ?_
      refine RunL.val (Val.pure rfl) rfl rfl rfl ?_
      refine RunL.sure (dj := 42) true rfl (by exact he2) ?_
      refine RunL.callP (isCall_func rfl ent_10) rfl rfl rfl (fun w hm => alive_calls w) ?_
      refine RunL.val (Val.pure rfl) rfl rfl rfl ?_
      refine RunL.val (Val.pure rfl) rfl rfl rfl ?_
      refine RunL.nil ?_
      refine RunE.next ?_
      refine RunC.ret ?_
      refine RunE.pass_ret ?_
      exact RunE.retP (.r1 rfl (.tmp rfl)) (by first | rfl | simp)
    · intro c1
      have c1' := c1; clear c1
      try simp only [decide_eq_true_eq, decide_eq_false_iff_not, Bool.not_eq_true', Bool.not_eq_false', Bool.and_eq_true, Bool.or_eq_true, Bool.and_eq_false_iff, Bool.or_eq_false_iff, Int.not_le, Int.not_lt] at c1'
      have hz0 : (gAlike g even).2 = 0 := by simpa using c1'
      obtain ⟨hO, hset, hev, hgl⟩ := alike_ok hz0
      obtain ⟨hpf, hps, hll⟩ := openG_pairs hO
      have hlen := hpf.len
      obtain ⟨s, hs⟩ : ∃ s, alikeL g even (seenL g) = s := ⟨_, rfl⟩
      have hp := alikeL_p (g := g) (even := even) (seenL g)
      rw [hs] at hp
      rw [hs] at hset
      simp only [hset]
      have hsn := alikeP_lt hp
      have h2n : 2 ^ g.f.things.length ≤ 2 ^ 12 := Nat.pow_le_pow_right (by decide) hlen
      have hsh : s >>> g.f.things.length = 0 := by rw [Nat.shiftRight_eq_div_pow]; exact Nat.div_eq_of_lt hsn
      have hyes := (alR_of (e2 := even) hO hlen hp).2 (Int.le_refl _)
      have h2p := Nat.two_pow_pos g.f.things.length
      have hown := and_lt_pow o g.f.things.length
      have hc3 := alike_c3 hO hlen hs hown
      refine RunC.skip ?_
      refine RunE.next ?_
      refine RunC.seq ?_
      refine RunC.seq ?_
      refine RunC.region ?_
      refine RunL.val (Val.load_agg rfl (.tail _ (.head _)) ty_28 rfl) rfl rfl rfl ?_
      refine RunL.callP (isCall_func rfl ent_23) rfl rfl rfl (fun w hm => rGlacier_calls g a w (hG.mono hm)) ?_
      refine RunL.val (Val.pure rfl) rfl rfl rfl ?_
      refine RunL.val (Val.pure rfl) rfl rfl rfl ?_
      refine RunL.sure (dj := 48) false rfl (by rw [hgl]; rfl) ?_
      refine RunL.val (Val.load_one rfl (.head _) ty_3 rfl) rfl rfl rfl ?_
      iterate 3 refine RunL.val (Val.pure rfl) rfl rfl rfl ?_
      refine RunL.sure (dj := 52) false rfl (decide_eq_false (by omega)) ?_
      refine RunL.val (Val.load_one rfl (.head _) ty_3 rfl) rfl rfl rfl ?_
      iterate 3 refine RunL.val (Val.pure rfl) rfl rfl rfl ?_
      refine RunL.sure (dj := 56) false rfl (decide_eq_false (by omega)) ?_
      iterate 4 refine RunL.val (Val.pure rfl) rfl rfl rfl ?_
      refine RunL.sure (dj := 60) false rfl (decide_eq_false (by omega)) ?_
      refine RunL.val (Val.pure rfl) rfl rfl rfl ?_
      refine RunL.val (Val.fieldAddr rfl fld_28_0) rfl rfl rfl ?_
      refine RunL.val (Val.fieldAddr rfl fld_26_5) rfl rfl rfl ?_
      refine RunL.val (Val.load_one rfl (.tail _ (.head _)) ty_24 rfl) rfl rfl rfl ?_
      refine RunL.val (Val.len_sl rfl sl_24) rfl rfl rfl ?_
      refine RunL.val (Val.shrN (a := s) (b := g.f.things.length) rfl rfl (by show _ ≤ 64; omega)) rfl rfl rfl ?_
      refine RunL.val (Val.pure rfl) rfl rfl rfl ?_
      refine RunL.val (Val.pure rfl) rfl rfl rfl ?_
      refine RunL.nil ?_
      refine RunE.next ?_
      refine RunC.cond rfl (fun h => absurd h (by simp [hsh])) ?_
      intro c2
      clear c2
      refine RunC.skip ?_
      refine RunE.next ?_
      refine RunC.seq ?_
      refine RunC.region ?_
      refine RunL.val (Val.pure rfl) rfl rfl rfl ?_
      refine RunL.val (Val.pure rfl) rfl rfl rfl ?_
      refine RunL.nil ?_
      refine RunE.next ?_
      refine RunC.seq ?_
      refine RunC.region ?_
      refine RunL.val (Val.pure rfl) rfl rfl rfl ?_
      refine RunL.val (Val.pure rfl) rfl rfl rfl ?_
      refine RunL.callP (isCall_value rfl rfl ent_31) rfl rfl rfl (fun w hm => alk_calls g a even s (by omega) _ _ w (hm.at (.tail _ (.head _))) (hm.at (.head _)) (hG.mono hm) hl1 hev) ?_
      iterate 5 refine RunL.val (Val.pure rfl) rfl rfl rfl ?_
      refine RunL.nil ?_
      refine RunE.next ?_
      refine RunC.seq ?_
      refine RunC.region ?_
      refine RunL.val (Val.pure rfl) rfl rfl rfl ?_
      refine RunL.val (Val.convInt rfl und_46 und_3 (IntWalk.i64_in _ ⟨by omega, by omega⟩)) rfl rfl rfl ?_
      refine RunL.val (Val.fieldAddr rfl fld_28_0) rfl rfl rfl ?_
      refine RunL.val (Val.fieldAddr rfl fld_26_5) rfl rfl rfl ?_
      refine RunL.val (Val.load_one rfl (.tail _ (.head _)) ty_24 rfl) rfl rfl rfl ?_
      refine RunL.val (Val.len_sl rfl sl_24) rfl rfl rfl ?_
      refine RunL.val (Val.shl1 (b := g.f.things.length) rfl rfl (by show _ ≤ 64; omega) (i64_inN (n := 2 ^ g.f.things.length) (by omega))) rfl rfl rfl ?_
      refine RunL.val (Val.subN (a := 2 ^ g.f.things.length) (b := 1) (2 ^ g.f.things.length - 1) rfl rfl (by omega) (i64_inN (by omega))) rfl rfl rfl ?_
      refine RunL.val (Val.and (a := o) (b := 2 ^ g.f.things.length - 1) rfl rfl (by show _ < 18446744073709551616; omega) (by show _ < 18446744073709551616; omega) (i64_inN (by omega))) rfl rfl rfl ?_
      refine RunL.val (Val.pure rfl) rfl rfl rfl ?_
      refine RunL.nil ?_
      refine RunE.next ?_
      refine RunC.seq ?_
      refine RunC.region ?_
      refine RunL.val (Val.pure rfl) rfl rfl rfl ?_
      refine RunL.val (Val.pure rfl) rfl rfl rfl ?_
      refine RunL.callP (isCall_value rfl rfl ent_31) rfl rfl rfl (fun w hm => alk_calls g a even (o &&& (2 ^ g.f.things.length - 1)) (by omega) _ _ w (hm.at (.tail _ (.head _))) (hm.at (.head _)) (hG.mono hm) hl1 hev) ?_
      iterate 5 refine RunL.val (Val.pure rfl) rfl rfl rfl ?_
      refine RunL.nil ?_
      refine RunE.next ?_
      refine RunC.seq ?_
      refine RunC.seq ?_
      refine RunC.region ?_
      iterate 3 refine RunL.val (Val.pure rfl) rfl rfl rfl ?_
      refine RunL.sure (dj := 93) false rfl (by rw [hyes]; rfl) ?_
      refine RunL.val (Val.pure rfl) rfl rfl rfl ?_
      refine RunL.val (Val.pure rfl) rfl rfl rfl ?_
      refine RunL.andPart (dj := 95) (dp := 109) (x := decide (((alR g even s).2 : Int) < ((alR g even (o &&& (2 ^ g.f.things.length - 1))).2 : Int)) || (decide (((alR g even (o &&& (2 ^ g.f.things.length - 1))).2 : Int) = ((alR g even s).2 : Int)) && decide (((o &&& (2 ^ g.f.things.length - 1) : Nat) : Int) < (s : Int)))) 14 rfl (fun g95 => by
        have g95' := g95
        try simp only [decide_eq_true_eq, decide_eq_false_iff_not, Bool.not_eq_true', Bool.not_eq_false', Bool.and_eq_true, Bool.or_eq_true, Bool.and_eq_false_iff, Bool.or_eq_false_iff, Int.not_le, Int.not_lt] at g95'
        iterate 4 refine RunL.val (Val.pure rfl) rfl rfl rfl ?_
        refine RunL.orPart (dj := 99) (dp := 108) (x := decide (((alR g even (o &&& (2 ^ g.f.things.length - 1))).2 : Int) = ((alR g even s).2 : Int)) && decide (((o &&& (2 ^ g.f.things.length - 1) : Nat) : Int) < (s : Int))) 9 rfl (fun g99 => by
          have g99' := g99
          try simp only [decide_eq_true_eq, decide_eq_false_iff_not, Bool.not_eq_true', Bool.not_eq_false', Bool.and_eq_true, Bool.or_eq_true, Bool.and_eq_false_iff, Bool.or_eq_false_iff, Int.not_le, Int.not_lt] at g99'
          iterate 4 refine RunL.val (Val.pure rfl) rfl rfl rfl ?_
          refine RunL.andPart (dj := 103) (dp := 107) 4 rfl (fun g103 => by
            have g103' := g103
            try simp only [decide_eq_true_eq, decide_eq_false_iff_not, Bool.not_eq_true', Bool.not_eq_false', Bool.and_eq_true, Bool.or_eq_true, Bool.and_eq_false_iff, Bool.or_eq_false_iff, Int.not_le, Int.not_lt] at g103'
            iterate 4 refine RunL.val (Val.pure rfl) rfl rfl rfl ?_
            exact RunL.segEnd (Sub.cons rfl (Sub.skip rfl (Sub.skip rfl (Sub.skip rfl (Sub.skip rfl (Sub.same rfl (by rw [g103]) (Sub.refl _))))))) (List.Sublist.refl _)
          ) (fun g103 => by
            have g103' := g103
            try simp only [decide_eq_true_eq, decide_eq_false_iff_not, Bool.not_eq_true', Bool.not_eq_false', Bool.and_eq_true, Bool.or_eq_true, Bool.and_eq_false_iff, Bool.or_eq_false_iff, Int.not_le, Int.not_lt] at g103'
            iterate 3 refine RunL.no rfl rfl rfl ?_
            refine RunL.val (Val.pure rfl) rfl rfl rfl ?_
            exact RunL.segEnd (Sub.cons rfl (Sub.skip rfl (Sub.skip rfl (Sub.skip rfl (Sub.skip rfl (Sub.same rfl (by rw [g103]) (Sub.refl _))))))) (List.Sublist.refl _)
          ) ?_
          refine RunL.val (Val.pure rfl) rfl rfl rfl ?_
          exact RunL.segEnd (Sub.cons rfl (Sub.skip rfl (Sub.skip rfl (Sub.skip rfl (Sub.skip rfl (Sub.skip rfl (Sub.skip rfl (Sub.same rfl (by rw [g99]) (Sub.refl _))))))))) (List.Sublist.refl _)
        ) (fun g99 => by
          have g99' := g99
          try simp only [decide_eq_true_eq, decide_eq_false_iff_not, Bool.not_eq_true', Bool.not_eq_false', Bool.and_eq_true, Bool.or_eq_true, Bool.and_eq_false_iff, Bool.or_eq_false_iff, Int.not_le, Int.not_lt] at g99'
          iterate 8 refine RunL.no rfl rfl rfl ?_
          refine RunL.val (Val.pure rfl) rfl rfl rfl ?_
          exact RunL.segEnd (Sub.cons rfl (Sub.skip rfl (Sub.skip rfl (Sub.skip rfl (Sub.skip rfl (Sub.skip rfl (Sub.skip rfl (Sub.skip rfl (Sub.skip rfl (Sub.skip rfl (Sub.same rfl (by rw [g99]) (Sub.refl _)))))))))))) (List.Sublist.refl _)
        ) ?_
        refine RunL.val (Val.pure rfl) rfl rfl rfl ?_
        exact RunL.segEnd (Sub.cons rfl (Sub.skip rfl (Sub.skip rfl (Sub.skip rfl (Sub.skip rfl (Sub.skip rfl (Sub.skip rfl (Sub.same rfl (by rw [g95]) (Sub.refl _))))))))) (List.Sublist.refl _)
      ) (fun g95 => by
        have g95' := g95
        try simp only [decide_eq_true_eq, decide_eq_false_iff_not, Bool.not_eq_true', Bool.not_eq_false', Bool.and_eq_true, Bool.or_eq_true, Bool.and_eq_false_iff, Bool.or_eq_false_iff, Int.not_le, Int.not_lt] at g95'
        iterate 13 refine RunL.no rfl rfl rfl ?_
        refine RunL.val (Val.pure rfl) rfl rfl rfl ?_
        exact RunL.segEnd (Sub.cons rfl (Sub.skip rfl (Sub.skip rfl (Sub.skip rfl (Sub.skip rfl (Sub.skip rfl (Sub.skip rfl (Sub.skip rfl (Sub.skip rfl (Sub.skip rfl (Sub.skip rfl (Sub.skip rfl (Sub.skip rfl (Sub.skip rfl (Sub.skip rfl (Sub.same rfl (by rw [g95]) (Sub.refl _))))))))))))))))) (List.Sublist.refl _)
      ) ?_
      refine RunL.val (Val.pure rfl) rfl rfl rfl ?_
      refine RunL.nil ?_
      refine RunE.next ?_
      refine RunC.cond rfl (fun h => absurd h (by rw [hc3]; exact Bool.false_ne_true)) ?_
      intro c3
      clear c3
      refine RunC.skip ?_
      refine RunE.next ?_
      refine RunC.seq ?_
      obtain ⟨e2, he2⟩ : ∃ e2, min 1073741824 (even + (m : Int)) = e2 := ⟨_, rfl⟩
      have hev2 : 0 ≤ e2 ∧ e2 ≤ 1073741824 ∧ even ≤ e2 := by omega
      obtain ⟨s2, hs2⟩ : ∃ s, alikeL g e2 (seenL g) = s := ⟨_, rfl⟩
      have hp2 := alikeL_p (g := g) (even := e2) (seenL g)
      rw [hs2] at hp2
      have hsn2 := alikeP_lt hp2
      have hset2 : gAlike g e2 = ((s2 : Int), 0) := by
        unfold gAlike
        rw [show openG g (within e2 0 1073741824) = .ok () by rw [open_true hO, show within e2 0 1073741824 = true by simp only [within, Bool.and_eq_true, decide_eq_true_eq]; omega]; rfl, hs2]
      have hge := alike_c4 hO hlen hs hs2 hev2.2.2
      refine RunC.region ?_
      refine RunL.val (Val.load_agg rfl (.tail _ (.head _)) ty_28 rfl) rfl rfl rfl ?_
      refine RunL.val (Val.load_one rfl (.head _) ty_3 rfl) rfl rfl rfl ?_
      refine RunL.val (Val.pure rfl) rfl rfl rfl ?_
      refine RunL.val (Val.convInt rfl und_5 und_3 (IntWalk.i64_in _ ⟨by omega, by omega⟩)) rfl rfl rfl ?_
      refine RunL.val (Val.add rfl rfl (IntWalk.i64_in _ ⟨by omega, by omega⟩)) rfl rfl rfl ?_
      refine RunL.val (Val.min rfl rfl) rfl rfl rfl ?_
      rw [he2]
      refine RunL.callP (isCall_func rfl ent_20) rfl rfl rfl (fun w hm => yAlike_calls g a e2 w (hG.mono hm)) ?_
      iterate 5 refine RunL.val (Val.pure rfl) rfl rfl rfl ?_
      refine RunL.nil ?_
      refine RunE.next ?_
      refine RunC.seq ?_
      simp only [hset2]
      refine RunC.region ?_
      refine RunL.val (Val.pure rfl) rfl rfl rfl ?_
      refine RunL.val (Val.pure rfl) rfl rfl rfl ?_
      refine RunL.callP (isCall_value rfl rfl ent_31) rfl rfl rfl (fun w hm => alk_calls g a even s2 (by omega) _ _ w (hm.at (.tail _ (.head _))) (hm.at (.head _)) (hG.mono hm) hl1 hev) ?_
      iterate 5 refine RunL.val (Val.pure rfl) rfl rfl rfl ?_
      refine RunL.nil ?_
      refine RunE.next ?_
      refine RunC.seq ?_
      refine RunC.region ?_
      iterate 3 refine RunL.val (Val.pure rfl) rfl rfl rfl ?_
      refine RunL.sure (dj := 129) true rfl (by simp) ?_
      iterate 5 refine RunL.val (Val.pure rfl) rfl rfl rfl ?_
      refine RunL.sure (dj := 134) true rfl (decide_eq_true hge) ?_
      refine RunL.callP (isCall_func rfl ent_10) rfl rfl rfl (fun w hm => alive_calls w) ?_
      refine RunL.val (Val.pure rfl) rfl rfl rfl ?_
      refine RunL.val (Val.pure rfl) rfl rfl rfl ?_
      refine RunL.nil ?_
      refine RunE.next ?_
      refine RunC.ret ?_
      exact RunE.retP (.r1 rfl (.tmp rfl)) (by first | rfl | simp)
end Go.Proofs.Ytjijeeadmhpfcaa
/- Layer 1, plain facts for the law on what is narrower. -/
set_option linter.unusedSimpArgs false
set_option linter.unusedVariables false
namespace Go.Pw1
open Go Go.Eng
/-- A pair of which more is known. -/
structure More (p x : Pr) : Prop where
  ok : x.Ok
  near : x.near = p.near
  far : x.far = p.far
  len : x.things.length = p.things.length
  p1 : (powers0 p).1 ≤ (powers0 x).1
  p2 : (powers0 x).2 ≤ (powers0 p).2
  th : ∀ i : Nat, i < p.things.length → (shift (thingAt p i)).1 ≤ (shift (thingAt x i)).1 ∧ (shift (thingAt x i)).2 ≤ (shift (thingAt p i)).2 ∧ (levelS x (thingAt x i) = true → levelS p (thingAt p i) = true) ∧ ((thingAt x i).far = (thingAt p i).far ∨ (thingAt p i).far = 0)
theorem More.shown {p x : Pr} (h : More p x) {i : Nat} (hi : i < p.things.length) : (shownS (thingAt p i)).1 ≤ (shownS (thingAt x i)).1 ∧ (shownS (thingAt x i)).2 ≤ (shownS (thingAt p i)).2 := by
  obtain ⟨h1, h2, _⟩ := h.th i hi
  simp only [shownS, nar]
  omega
theorem More.pow {p x : Pr} (hp : p.Ok) (h : More p x) {i : Nat} (hi : i < p.things.length) {w : Int} (hw : 1 ≤ w) (hin : InB w (powersR x (thingAt x i))) : InB w (powersR p (thingAt p i)) := by
  obtain ⟨z1, z2, st, hb, hl⟩ := stl_of h.ok (thing_mem (p := x) (by rw [h.len]; exact hi)) hw hin
  obtain ⟨h1, h2, h3, h4⟩ := h.th i hi
  obtain ⟨g1, g2⟩ := h.shown hi
  have hbp : isB (shownS (thingAt p i)) = true := by
    have := st.s1
    simp only [isB, decide_eq_true_eq]
    omega
  have sb := shown_bd hbp
  have hlp := h3 hl
  rw [st.e1] at hin
  have hth := (hp.ths _ (thing_mem hi)).2
  have hthx := (h.ok.ths _ (thing_mem (p := x) (by rw [h.len]; exact hi))).2
  have s0 := st.s0
  have s1 := st.s1
  have n1 := hp.n1
  have n2 := hp.n2
  have hn := h.near
  have hf := h.far
  unfold powersR
  rw [if_pos (by rw [hbp, hlp]; rfl)]
  unfold powersS
  by_cases hfp : (thingAt p i).far = 0
  · rw [if_pos hfp]
    have hz : p.near ≤ z1 ∧ z2 ≤ p.far := by
      by_cases hfx : (thingAt x i).far = 0
      · obtain ⟨rfl, rfl⟩ := st.other hfx; omega
      · obtain ⟨rfl, rfl⟩ := st.mark hfx; omega
    simp only [InB] at hin ⊢
    have m1 := Int.mul_le_mul g1 hz.1 (by omega) (by omega)
    have m2 := Int.mul_le_mul (show (shownS (thingAt x i)).2 + 1 ≤ (shownS (thingAt p i)).2 + 1 by omega) hz.2 (by have := st.le1; have := st.le2; omega) (by omega)
    omega
  · rw [if_neg hfp]
    have hfx : (thingAt x i).far = (thingAt p i).far := h4.resolve_right hfp
    obtain ⟨rfl, rfl⟩ := st.mark (by rw [hfx]; exact hfp)
    rw [hfx] at hin
    have hz : 0 ≤ (thingAt p i).far := by omega
    simp only [InB] at hin ⊢
    have m1 := mul_mono hz g1
    have m2 := mul_mono hz (show (shownS (thingAt x i)).2 + 1 ≤ (shownS (thingAt p i)).2 + 1 by omega)
    omega
theorem More.all {p x : Pr} (hp : p.Ok) (h : More p x) {w : Int} (hin : InB w (allS x)) : InB w (allS p) := by
  have hw : 1 ≤ w := by have := (allS_bd h.ok).1; simp only [InB] at hin; omega
  rw [allS_in] at hin ⊢
  refine ⟨?_, fun t ht hf => ?_⟩
  · have h1 := h.p1
    have h2 := h.p2
    have h3 := hin.1
    simp only [InB] at h3 ⊢
    omega
  · obtain ⟨i, hi, rfl⟩ := mem_thing ht
    refine h.pow hp hi hw (hin.2 _ (thing_mem (p := x) (by rw [h.len]; exact hi)) ?_)
    rw [(h.th i hi).2.2.2.resolve_right hf]
    exact hf
theorem More.isB {p x : Pr} (hp : p.Ok) (h : More p x) (hx : isB (allS x) = true) : isB (allS p) = true := isB_of (h.all hp (isB_iff.1 hx))
theorem More.in {p x : Pr} (hp : p.Ok) (h : More p x) (hb : Pw1.isB (allS x) = true) : (allS p).1 ≤ (allS x).1 ∧ (allS x).2 ≤ (allS p).2 := by
  have h1 := h.all hp (isB_iff.1 hb)
  have h2 := h.all hp (show InB (allS x).2 (allS x) from ⟨(isB_iff.1 hb).2, Int.le_refl _⟩)
  simp only [InB] at h1 h2
  omega
theorem More.still {p x : Pr} (hp : p.Ok) (h : More p x) {i : Nat} (hi : i < p.things.length) (hs : Pw1.isB (nar (allS x) (powersR x (thingAt x i))) = true) : Pw1.isB (nar (allS p) (powersR p (thingAt p i))) = true := by
  obtain ⟨w, h1, h2⟩ := isB_nar hs
  have hw : 1 ≤ w := by have := (allS_bd h.ok).1; simp only [InB] at h1; omega
  exact isB_of (inB_nar.2 ⟨h.all hp h1, h.pow hp hi hw h2⟩)
theorem More.farS {p x : Pr} (hp : p.Ok) (h : More p x) {i : Nat} (hi : i < p.things.length) (hb : Pw1.isB (allS x) = true) (hs : Pw1.isB (nar (allS x) (powersR x (thingAt x i))) = true) :
    (farS p (thingAt p i) (allS p)).1 ≤ (Pw1.farS x (thingAt x i) (allS x)).1 ∧ (Pw1.farS x (thingAt x i) (allS x)).2 ≤ (Pw1.farS p (thingAt p i) (allS p)).2 := by
  obtain ⟨w, h1, h2⟩ := isB_nar hs
  have hw : 1 ≤ w := by have := (allS_bd h.ok).1; simp only [InB] at h1; omega
  have hxm := thing_mem (p := x) (show i < x.things.length by rw [h.len]; exact hi)
  obtain ⟨z1, z2, st, _, _⟩ := stl_of h.ok hxm hw h2
  obtain ⟨y1, y2, sp, _, _⟩ := stl_of hp (thing_mem hi) hw (h.pow hp hi hw h2)
  obtain ⟨g1, g2⟩ := h.shown hi
  obtain ⟨a1, a2⟩ := h.in hp hb
  have ha := (allS_bd hp).1
  have hax := (isB_iff.1 hb).2
  obtain ⟨_, _, _, h4⟩ := h.th i hi
  have n1 := hp.n1
  have n2 := hp.n2
  have hth := (hp.ths _ (thing_mem hi)).2
  have hthx := (h.ok.ths _ hxm).2
  have hn := h.near
  have hf := h.far
  have lx : (thingAt x i).far ≠ 0 → InB (allS x).1 (powersR x (thingAt x i)) ∧ InB (allS x).2 (powersR x (thingAt x i)) := fun hf => ⟨(allS_in.1 (isB_iff.1 hb)).2 _ hxm hf, (allS_in.1 (show InB (allS x).2 (allS x) from ⟨hax, Int.le_refl _⟩)).2 _ hxm hf⟩
  rw [st.e1] at lx
  simp only [InB] at lx
  have s0 := sp.s0
  have s1 := sp.s1
  have t0 := st.s0
  have t1 := st.s1
  unfold Pw1.farS
  generalize (allS p).1 = u at *
  generalize (allS p).2 = v at *
  generalize (allS x).1 = u' at *
  generalize (allS x).2 = v' at *
  generalize (shownS (thingAt p i)).1 = p1 at *
  generalize (shownS (thingAt p i)).2 = p2 at *
  generalize (shownS (thingAt x i)).1 = x1 at *
  generalize (shownS (thingAt x i)).2 = x2 at *
  by_cases fp : (thingAt p i).far = 0
  · rw [if_pos fp]
    by_cases fx : (thingAt x i).far = 0
    · rw [if_pos fx]
      have d1 : u / (p2 + 1) ≤ u' / (x2 + 1) := by
        rw [le_div (by omega)]
        have e1 : u / (p2 + 1) * (p2 + 1) ≤ u := Int.ediv_mul_le _ (by omega)
        have e2 := Int.mul_le_mul_of_nonneg_left (show x2 + 1 ≤ p2 + 1 by omega) (Int.ediv_nonneg (show 0 ≤ u by omega) (show 0 ≤ p2 + 1 by omega))
        omega
      refine ⟨by simp only; omega, ?_⟩
      by_cases hp1 : 0 < p1
      · rw [if_pos hp1, if_pos (by omega)]
        have d2 : v' / x1 ≤ v / p1 := by
          rw [le_div hp1]
          have e1 : v' / x1 * x1 ≤ v' := Int.ediv_mul_le _ (by omega)
          have e2 := Int.mul_le_mul_of_nonneg_left (show p1 ≤ x1 by omega) (Int.ediv_nonneg (show 0 ≤ v' by omega) (show 0 ≤ x1 by omega))
          omega
        simp only; omega
      · rw [if_neg hp1]
        simp only
        split <;> omega
    · rw [if_neg fx]
      obtain ⟨rfl, rfl⟩ := st.mark fx
      have hl := lx fx
      have m1 := mul_mono (c := (thingAt x i).far) (by omega) g1
      have m2 := mul_mono (c := (thingAt x i).far) (by omega) (show x2 + 1 ≤ p2 + 1 by omega)
      have d1 : u / (p2 + 1) < (thingAt x i).far := by rw [div_lt (by omega), Int.mul_comm]; omega
      refine ⟨by simp only; omega, ?_⟩
      simp only
      split
      · have d2 : (thingAt x i).far ≤ v / p1 := by rw [le_div (by omega), Int.mul_comm]; omega
        omega
      · omega
  · rw [if_neg fp]
    have fx : (thingAt x i).far = (thingAt p i).far := h4.resolve_right fp
    rw [if_neg (by rw [fx]; exact fp), fx]
    exact ⟨Int.le_refl _, Int.le_refl _⟩
theorem More.good {p x : Pr} (hp : p.Ok) (h : More p x) {s : Nat} (hg : Good x s) : Good p s := by
  have h1 := (with_in _).1 (isB_iff.1 hg)
  have hw : 1 ≤ (withK x s x.things.length).1 := by have := (allS_bd h.ok).1; have := h1.1; simp only [InB] at this; omega
  refine isB_of (x := (withK x s x.things.length).1) ((with_in _).2 ⟨h.all hp h1.1, fun i hi hb => h.pow hp hi hw (h1.2 i (by rw [h.len]; exact hi) hb)⟩)
theorem More.few {p x : Pr} (hp : p.Ok) (h : More p x) (hb : Pw1.isB (allS x) = true) : pc (bestS p (allS p)) 12 ≤ pc (bestS x (allS x)) 12 := by
  have := good_le (h.good hp (best_good hb).1)
  unfold Le at this
  omega
/-! ## How a pair becomes one of which more is known -/
def narrowS (s : Sp) (n : Nat) : Sp := ⟨min s.hi (s.lo + (n % 3 : Nat)), max (min s.hi (s.lo + (n % 3 : Nat))) (s.hi - (n / 3 % 3 : Nat))⟩
theorem narrowS_in {s : Sp} (h : s.lo ≤ s.hi) (n : Nat) : s.lo ≤ (narrowS s n).lo ∧ (narrowS s n).lo ≤ (narrowS s n).hi ∧ (narrowS s n).hi ≤ s.hi := by
  simp only [narrowS]
  omega
/-- A thing is another one. -/
def setT (p : Pr) (j : Nat) (t : Th) : Pr := { p with things := p.things.set j t }
theorem setT_at {p : Pr} {j : Nat} {t : Th} (hj : j < p.things.length) (i : Nat) (hi : i < p.things.length) : thingAt (setT p j t) i = if i = j then t else thingAt p i := by
  have h1 : i < (setT p j t).things.length := by simpa [setT] using hi
  rw [thingAt_eq h1 rfl, thingAt_eq hi rfl]
  have h2 : i < (p.things.set j t).length := by simpa using hi
  show (p.things.set j t)[i]'h2 = _
  rw [List.getElem_set]
  by_cases h : i = j
  · subst h; simp
  · rw [if_neg h, if_neg (fun e => h e.symm)]
theorem more_set {p : Pr} (hp : p.Ok) {j : Nat} (hj : j < p.things.length) {t : Th} (ht : t.Ok) (hf : t.far = 0 ∨ (p.near ≤ t.far ∧ t.far ≤ p.far)) (h1 : (shift (thingAt p j)).1 ≤ (shift t).1) (h2 : (shift t).2 ≤ (shift (thingAt p j)).2)
    (h3 : levelS p t = true → levelS p (thingAt p j) = true) (h4 : t.far = (thingAt p j).far ∨ (thingAt p j).far = 0) : More p (setT p j t) := by
  obtain ⟨f1, f2, f3, b1, b2, b3, t1, t2, n1, n2, n3, hl, hth⟩ := hp
  refine ⟨⟨f1, f2, f3, b1, b2, b3, t1, t2, n1, n2, n3, by simpa [setT] using hl, fun u hu => ?_⟩, rfl, rfl, by simp [setT], Int.le_refl _, Int.le_refl _, fun i hi => ?_⟩
  · rcases List.mem_or_eq_of_mem_set hu with hu | rfl
    · exact hth u hu
    · exact ⟨ht, hf⟩
  · rw [setT_at hj i hi]
    split
    · rename_i he
      subst he
      exact ⟨h1, h2, h3, h4⟩
    · exact ⟨Int.le_refl _, Int.le_refl _, fun h => h, .inl rfl⟩
theorem more_size {p : Pr} (hp : p.Ok) {f b : Sp} (hf : p.focal.lo ≤ f.lo ∧ f.lo ≤ f.hi ∧ f.hi ≤ p.focal.hi) (hb : p.base.lo ≤ b.lo ∧ b.lo ≤ b.hi ∧ b.hi ≤ p.base.hi) : More p { p with focal := f, base := b } := by
  obtain ⟨f1, f2, f3, b1, b2, b3, t1, t2, n1, n2, n3, hl, hth⟩ := hp
  refine ⟨⟨by simp only; omega, hf.2.1, by simp only; omega, by simp only; omega, hb.2.1, by simp only; omega, t1, t2, n1, n2, n3, hl, hth⟩, rfl, rfl, rfl, ?_, ?_, fun i hi => ⟨Int.le_refl _, Int.le_refl _, fun h => h, .inl rfl⟩⟩
  · simp only [powers0]
    exact Int.mul_le_mul hf.1 hb.1 (by omega) (by omega)
  · simp only [powers0]
    exact Int.mul_le_mul hf.2.2 hb.2.2 (by omega) (by omega)
theorem more_tilt {p : Pr} (hp : p.Ok) {d : Int} (h0 : 0 ≤ d) (h1 : d ≤ p.tilt) : More p { p with tilt := d } := by
  obtain ⟨f1, f2, f3, b1, b2, b3, t1, t2, n1, n2, n3, hl, hth⟩ := hp
  refine ⟨⟨f1, f2, f3, b1, b2, b3, h0, by simp only; omega, n1, n2, n3, hl, hth⟩, rfl, rfl, rfl, Int.le_refl _, Int.le_refl _, fun i hi => ⟨Int.le_refl _, Int.le_refl _, fun h => ?_, .inl rfl⟩⟩
  have e : thingAt { p with tilt := d } i = thingAt p i := rfl
  rw [e] at h
  simp only [levelS, isB, decide_eq_true_eq] at h ⊢
  simp only [nar] at h ⊢
  omega
theorem more_refl {p : Pr} (hp : p.Ok) : More p p := ⟨hp, rfl, rfl, rfl, Int.le_refl _, Int.le_refl _, fun _ _ => ⟨Int.le_refl _, Int.le_refl _, fun h => h, .inl rfl⟩⟩
theorem more_x {p : Pr} (hp : p.Ok) {j : Nat} (hj : j < p.things.length) {t : Th} (hta : thingAt p j = t) (a b : Nat) : More p (setT p j { t with lx := narrowS t.lx a, rx := narrowS t.rx b }) := by
  obtain ⟨⟨⟨h1, h2, h3⟩, h4, ⟨h7, h8, h9⟩, h10⟩, hf⟩ := hp.ths t (hta ▸ thing_mem hj)
  obtain ⟨a1, a2, a3⟩ := narrowS_in h2 a
  obtain ⟨c1, c2, c3⟩ := narrowS_in h8 b
  refine more_set hp hj ⟨⟨by simp only; omega, a2, by simp only; omega⟩, h4, ⟨by simp only; omega, c2, by simp only; omega⟩, h10⟩ hf ?_ ?_ ?_ ?_
  · rw [hta]; simp only [shift]; omega
  · rw [hta]; simp only [shift]; omega
  · rw [hta]; exact fun h => h
  · rw [hta]; exact .inl rfl
theorem more_y {p : Pr} (hp : p.Ok) {j : Nat} (hj : j < p.things.length) {t : Th} (hta : thingAt p j = t) (a b : Nat) : More p (setT p j { t with ly := narrowS t.ly a, ry := narrowS t.ry b }) := by
  obtain ⟨⟨h4, ⟨h1, h2, h3⟩, h10, ⟨h7, h8, h9⟩⟩, hf⟩ := hp.ths t (hta ▸ thing_mem hj)
  obtain ⟨a1, a2, a3⟩ := narrowS_in h2 a
  obtain ⟨c1, c2, c3⟩ := narrowS_in h8 b
  refine more_set hp hj ⟨h4, ⟨by simp only; omega, a2, by simp only; omega⟩, h10, ⟨by simp only; omega, c2, by simp only; omega⟩⟩ hf ?_ ?_ ?_ ?_
  · rw [hta]; exact Int.le_refl _
  · rw [hta]; exact Int.le_refl _
  · rw [hta]
    intro h
    simp only [levelS, isB, decide_eq_true_eq] at h ⊢
    simp only [nar] at h ⊢
    omega
  · rw [hta]; exact .inl rfl
theorem more_far {p : Pr} (hp : p.Ok) {j : Nat} (hj : j < p.things.length) {t : Th} (hta : thingAt p j = t) {z : Int} (h0 : t.far = 0) (h1 : p.near ≤ z) (h2 : z ≤ p.far) : More p (setT p j { t with far := z }) := by
  obtain ⟨ht, hf⟩ := hp.ths t (hta ▸ thing_mem hj)
  refine more_set hp hj ht (.inr ⟨h1, h2⟩) ?_ ?_ ?_ ?_
  · rw [hta]; exact Int.le_refl _
  · rw [hta]; exact Int.le_refl _
  · rw [hta]; exact fun h => h
  · rw [hta]; exact .inr h0
theorem shift_fine {p : Pr} (hp : p.Ok) {n : Int} (ht : thingR p n = true) : shiftX p n = (shift (thingAt p n), 0) := by
  rw [shift_same]
  unfold shiftR
  rw [ok_isPair hp, ht]
  simp
theorem power_fine {p : Pr} (hp : p.Ok) : ((powerX p).2 = 0 ∧ isB (allS p) = true ∧ (powerX p).1 = allS p) ∨ ((powerX p).2 = 4 ∧ isB (allS p) = false) := by
  rw [power_same]
  unfold powerR openR
  rw [ok_isPair hp]
  cases isB (allS p) <;> simp
theorem thingR_of {p : Pr} {i : Nat} (hi : i < p.things.length) : thingR p i = true := by simp [thingR, within]; omega
theorem best_lt {p : Pr} (hp : p.Ok) (hw : isB (allS p) = true) : bestS p (allS p) < 4096 := by
  have h1 := (best_good hw).2
  have h2 : 2 ^ p.things.length ≤ 2 ^ 12 := Nat.pow_le_pow_right (by omega) hp.len
  omega
theorem more_c6 {p x : Pr} (hp : p.Ok) (h : More p x) {i : Nat} (hi : i < p.things.length) : (!decide ((shiftX p i).2 = 0) || !decide ((shiftX x i).2 = 0) || !(decide ((shiftX p i).1.1 ≤ (shiftX x i).1.1) && decide ((shiftX x i).1.2 ≤ (shiftX p i).1.2)) || !decide ((powerX x).2 = 0) && !decide ((powerX x).2 = 4) || !decide ((powerX p).2 = 0) && decide ((powerX x).2 = 0)) = false := by
  have hix : i < x.things.length := by rw [h.len]; exact hi
  rw [shift_fine hp (thingR_of hi), shift_fine h.ok (thingR_of hix)]
  obtain ⟨h1, h2, _⟩ := h.th i hi
  have hpx := power_fine h.ok
  have hpp := power_fine hp
  have hb := h.isB hp
  rcases hpx with ⟨e1, e2, _⟩ | ⟨e1, e2⟩
  · rcases hpp with ⟨e3, e4, _⟩ | ⟨e3, e4⟩
    · simp [e1, e3, h1, h2]
    · rw [hb e2] at e4; cases e4
  · simp [e1, h1, h2]
theorem more_c8 {p x : Pr} (hp : p.Ok) (h : More p x) (hb : isB (allS x) = true) {i : Nat} (hi : i < p.things.length) :
    (!(decide ((powerX p).1.1 ≤ (powerX x).1.1) && decide ((powerX x).1.2 ≤ (powerX p).1.2)) || !decide ((whyX p i).2 = 0) || !decide ((whyX x i).2 = 0) || !decide ((whyX p i).1 = 0) && decide ((whyX x i).1 = 0) || decide ((distX x i).2 = 0) && (!decide ((distX p i).2 = 0) || !(decide ((distX p i).1.1 ≤ (distX x i).1.1) && decide ((distX x i).1.2 ≤ (distX p i).1.2))) || !decide ((fewestX p).2.2 = 0) || !decide ((fewestX x).2.2 = 0) || decide ((fewestX p).1 < 0) || decide ((fewestX x).1 < 0)) = false := by
  have hix : i < x.things.length := by rw [h.len]; exact hi
  have hbp := h.isB hp hb
  obtain ⟨a1, a2⟩ := h.in hp hb
  obtain ⟨y1, y2⟩ := why_fine hp hbp (thingR_of hi)
  obtain ⟨y3, y4⟩ := why_fine h.ok hb (thingR_of hix)
  have e1 : (powerX p).1 = allS p := by rcases power_fine hp with ⟨_, _, e⟩ | ⟨_, e⟩; exact e; rw [hbp] at e; cases e
  have e2 : (powerX x).1 = allS x := by rcases power_fine h.ok with ⟨_, _, e⟩ | ⟨_, e⟩; exact e; rw [hb] at e; cases e
  rw [few_ok hp hbp, few_ok h.ok hb, e1, e2, y1, y3, y2, y4, dist_eq hp (thingR_of hi) hbp, dist_eq h.ok (thingR_of hix) hb]
  have hw : ¬ whyS p (thingAt p i) (allS p) = 0 → ¬ whyS x (thingAt x i) (allS x) = 0 := fun g1 g2 => g1 ((whyS_zero _ _ _).2 (h.still hp hi ((whyS_zero _ _ _).1 g2)))
  by_cases hs : isB (nar (allS x) (powersR x (thingAt x i))) = true
  · have hsp := h.still hp hi hs
    obtain ⟨d1, d2⟩ := h.farS hp hi hb hs
    rw [if_pos hs, if_pos hsp]
    have z1 := (whyS_zero _ _ _).2 hsp
    simp [a1, a2, d1, d2, z1]
  · rw [if_neg hs]
    have z1 : ¬ whyS x (thingAt x i) (allS x) = 0 := fun g => hs ((whyS_zero _ _ _).1 g)
    simp [a1, a2, z1]
end Go.Pw1
/- Layer 5, plain facts: heights within a box; a glacier of which more is known. -/
set_option linter.unusedSimpArgs false
set_option linter.unusedVariables false
namespace Go.Pw1
open Go Go.Eng
open Go.Proofs.Ytjijeeadmhpfcaa (glacierR)
theorem minL_le : ∀ (l : List Int) (x : Int), minL x l ≤ x ∧ ∀ y ∈ l, minL x l ≤ y
  | [], x => ⟨Int.le_refl _, by simp⟩
  | y :: l, x => by
    have h := minL_le l (min x y)
    have e : minL x (y :: l) = minL (min x y) l := rfl
    rw [e]
    refine ⟨by have := h.1; omega, fun u hu => ?_⟩
    rcases List.mem_cons.1 hu with rfl | hu
    · have := h.1; omega
    · exact h.2 u hu
theorem le_minL {m : Int} : ∀ (l : List Int) (x : Int), m ≤ x → (∀ y ∈ l, m ≤ y) → m ≤ minL x l
  | [], x, h, _ => h
  | y :: l, x, h, h2 => le_minL l (min x y) (by have := h2 y (by simp); omega) (fun u hu => h2 u (by simp [hu]))
theorem le_maxL : ∀ (l : List Int) (x : Int), x ≤ maxL x l ∧ ∀ y ∈ l, y ≤ maxL x l
  | [], x => ⟨Int.le_refl _, by simp⟩
  | y :: l, x => by
    have h := le_maxL l (max x y)
    have e : maxL x (y :: l) = maxL (max x y) l := rfl
    rw [e]
    refine ⟨by have := h.1; omega, fun u hu => ?_⟩
    rcases List.mem_cons.1 hu with rfl | hu
    · have := h.1; omega
    · exact h.2 u hu
theorem maxL_le {m : Int} : ∀ (l : List Int) (x : Int), x ≤ m → (∀ y ∈ l, y ≤ m) → maxL x l ≤ m
  | [], x, h, _ => h
  | y :: l, x, h, h2 => maxL_le l (max x y) (by have := h2 y (by simp); omega) (fun u hu => h2 u (by simp [hu]))
theorem fdiv_mono {a b f : Int} (hf : 0 < f) (h : a ≤ b) : a / f ≤ b / f := Int.ediv_le_ediv hf h
/-- Divided by more: nearer to 0, or farther from it, rounded down. -/
theorem fdiv_between {n f1 f f2 : Int} (h1 : 0 < f1) (h2 : f1 ≤ f) (h3 : f ≤ f2) : (n / f1 ≤ n / f ∨ n / f2 ≤ n / f) ∧ (n / f ≤ n / f1 ∨ n / f ≤ n / f2) := by
  rcases Int.le_total 0 n with hn | hn
  · have dec : ∀ {u v : Int}, 0 < u → u ≤ v → n / v ≤ n / u := fun {u v} hu huv => by
      rw [Int.le_ediv_iff_mul_le hu]
      have e1 := Int.ediv_mul_le n (show v ≠ 0 by omega)
      have e2 := Int.mul_le_mul_of_nonneg_left huv (Int.ediv_nonneg hn (show 0 ≤ v by omega))
      omega
    exact ⟨.inr (dec (by omega) h3), .inl (dec h1 h2)⟩
  · have inc : ∀ {u v : Int}, 0 < u → u ≤ v → n / u ≤ n / v := fun {u v} hu huv => by
      rw [Int.le_ediv_iff_mul_le (show 0 < v by omega)]
      have e1 := Int.ediv_mul_le n (show u ≠ 0 by omega)
      have hq : n / u ≤ 0 := by
        have := Int.ediv_le_ediv hu hn
        simpa using this
      have e2 := Int.mul_le_mul_of_nonneg_left huv (show 0 ≤ -(n / u) by omega)
      rw [Int.neg_mul, Int.neg_mul] at e2
      omega
    exact ⟨.inl (inc h1 h2), .inr (inc (by omega) h3)⟩
theorem mul_between {y v1 v v2 : Int} (h1 : v1 ≤ v) (h2 : v ≤ v2) : (y * v1 ≤ y * v ∨ y * v2 ≤ y * v) ∧ (y * v ≤ y * v1 ∨ y * v ≤ y * v2) := by
  rcases Int.le_total 0 y with hy | hy
  · exact ⟨.inl (Int.mul_le_mul_of_nonneg_left h1 hy), .inr (Int.mul_le_mul_of_nonneg_left h2 hy)⟩
  · have neg : ∀ {a b : Int}, a ≤ b → y * b ≤ y * a := fun {a b} h => by
      have := Int.mul_le_mul_of_nonneg_left h (show 0 ≤ -y by omega)
      rw [Int.neg_mul, Int.neg_mul] at this
      omega
    exact ⟨.inr (neg h2), .inl (neg h1)⟩
theorem htP_in {p : Pr} {t : Th} {z : Int × Int} {y v f : Int} (hf1 : 1 ≤ p.focal.lo) (hz : 0 ≤ z.1) (hy : t.ly.lo ≤ y ∧ y ≤ t.ly.hi) (hv : z.1 ≤ v ∧ v ≤ z.2) (hf : p.focal.lo ≤ f ∧ f ≤ p.focal.hi) : (htP p t z).1 ≤ y * v / f ∧ y * v / f ≤ (htP p t z).2 := by
  have hlo := minL_le (htL p t z) (t.ly.lo * z.1 / p.focal.lo)
  have hhi := le_maxL (htL p t z) (t.ly.lo * z.1 / p.focal.lo)
  have lows : ∀ a b c, (a = t.ly.lo ∨ a = t.ly.hi) → (b = z.1 ∨ b = z.2) → (c = p.focal.lo ∨ c = p.focal.hi) → (htP p t z).1 ≤ a * b / c ∧ a * b / c ≤ (htP p t z).2 := by
    intro a b c ha hb hc
    have key : a * b / c = t.ly.lo * z.1 / p.focal.lo ∨ a * b / c ∈ htL p t z := by
      rcases ha with rfl | rfl <;> rcases hb with rfl | rfl <;> rcases hc with rfl | rfl <;> simp [htL]
    rcases key with h | h
    · rw [h]; exact ⟨hlo.1, hhi.1⟩
    · exact ⟨hlo.2 _ h, hhi.2 _ h⟩
  have ends : ∀ a, (a = t.ly.lo ∨ a = t.ly.hi) → (htP p t z).1 ≤ a * v / f ∧ a * v / f ≤ (htP p t z).2 := by
    intro a ha
    have fpos : 0 < f := by omega
    have hb := mul_between (y := a) hv.1 hv.2
    have down : ∀ b, (b = z.1 ∨ b = z.2) → (htP p t z).1 ≤ a * b / f ∧ a * b / f ≤ (htP p t z).2 := by
      intro b hb'
      have hd := fdiv_between (n := a * b) (show 0 < p.focal.lo by omega) hf.1 hf.2
      have l1 := lows a b p.focal.lo ha hb' (.inl rfl)
      have l2 := lows a b p.focal.hi ha hb' (.inr rfl)
      constructor
      · rcases hd.1 with h | h <;> omega
      · rcases hd.2 with h | h <;> omega
    have d1 := down z.1 (.inl rfl)
    have d2 := down z.2 (.inr rfl)
    constructor
    · rcases hb.1 with h | h
      · have := fdiv_mono fpos h; omega
      · have := fdiv_mono fpos h; omega
    · rcases hb.2 with h | h
      · have := fdiv_mono fpos h; omega
      · have := fdiv_mono fpos h; omega
  have e1 := ends t.ly.lo (.inl rfl)
  have e2 := ends t.ly.hi (.inr rfl)
  have v0 : 0 ≤ v := by omega
  have m1 := fdiv_mono (show 0 < f by omega) (Int.mul_le_mul_of_nonneg_right hy.1 v0)
  have m2 := fdiv_mono (show 0 < f by omega) (Int.mul_le_mul_of_nonneg_right hy.2 v0)
  omega
theorem htP_sub {p x : Pr} {t u : Th} {z v : Int × Int} (hf1 : 1 ≤ p.focal.lo) (hz : 0 ≤ z.1) (hy : t.ly.lo ≤ u.ly.lo ∧ u.ly.lo ≤ u.ly.hi ∧ u.ly.hi ≤ t.ly.hi) (hv : z.1 ≤ v.1 ∧ v.1 ≤ v.2 ∧ v.2 ≤ z.2) (hf : p.focal.lo ≤ x.focal.lo ∧ x.focal.lo ≤ x.focal.hi ∧ x.focal.hi ≤ p.focal.hi) :
    (htP p t z).1 ≤ (htP x u v).1 ∧ (htP x u v).2 ≤ (htP p t z).2 := by
  have key : ∀ a b c, (a = u.ly.lo ∨ a = u.ly.hi) → (b = v.1 ∨ b = v.2) → (c = x.focal.lo ∨ c = x.focal.hi) → (htP p t z).1 ≤ a * b / c ∧ a * b / c ≤ (htP p t z).2 := by
    intro a b c ha hb hc
    refine htP_in hf1 hz ?_ ?_ ?_
    · rcases ha with rfl | rfl <;> omega
    · rcases hb with rfl | rfl <;> omega
    · rcases hc with rfl | rfl <;> omega
  constructor
  · refine le_minL _ _ (key _ _ _ (.inl rfl) (.inl rfl) (.inl rfl)).1 (fun y hy => ?_)
    simp only [htL, List.mem_cons, List.not_mem_nil, or_false] at hy
    rcases hy with rfl | rfl | rfl | rfl | rfl | rfl | rfl <;> exact (key _ _ _ (by simp) (by simp) (by simp)).1
  · refine maxL_le _ _ (key _ _ _ (.inl rfl) (.inl rfl) (.inl rfl)).2 (fun y hy => ?_)
    simp only [htL, List.mem_cons, List.not_mem_nil, or_false] at hy
    rcases hy with rfl | rfl | rfl | rfl | rfl | rfl | rfl <;> exact (key _ _ _ (by simp) (by simp) (by simp)).2
/-- A thing, and a pair, told more narrowly. -/
def nwT (t : Th) (a b : Nat) : Th := { t with lx := ⟨min t.lx.hi (t.lx.lo + (a : Int)), t.lx.hi⟩, ly := ⟨t.ly.lo, max t.ly.lo (t.ly.hi - (b : Int))⟩ }
def nwP (p : Pr) (j : Nat) (t : Th) (a b c : Nat) : Pr := { p with focal := ⟨min p.focal.hi (p.focal.lo + (c : Int)), p.focal.hi⟩, things := p.things.set j (nwT t a b) }
theorem more_nw {p : Pr} (hp : p.Ok) {j : Nat} (hj : j < p.things.length) {t : Th} (ht : p.things[j] = t) (a b c : Nat) : More p (nwP p j t a b c) := by
  have hta := thingAt_eq hj ht
  obtain ⟨⟨⟨h1, h2, h3⟩, ⟨h4, h5, h6⟩, h7⟩, hf⟩ := hp.ths t (ht ▸ List.getElem_mem hj)
  have f1 := hp.f1
  have f2 := hp.f2
  have m1 := more_size hp (f := ⟨min p.focal.hi (p.focal.lo + (c : Int)), p.focal.hi⟩) (b := p.base) ⟨by simp only; omega, by simp only; omega, Int.le_refl _⟩ ⟨Int.le_refl _, hp.b2, Int.le_refl _⟩
  have m2 := more_set hp hj (t := nwT t a b) ⟨⟨by simp only [nwT]; omega, by simp only [nwT]; omega, h3⟩, ⟨h4, by simp only [nwT]; omega, by simp only [nwT]; omega⟩, h7⟩ hf (by rw [hta]; simp only [shift, nwT]; omega) (by rw [hta]; simp only [shift, nwT]; omega) (by
    rw [hta]
    intro h
    simp only [levelS, isB, decide_eq_true_eq] at h ⊢
    simp only [nar, nwT] at h ⊢
    omega) (by rw [hta]; exact .inl rfl)
  obtain ⟨g1, g2, g3, g4, g5, g6, g7, g8, g9, g10, g11, _, _⟩ := m1.ok
  exact ⟨⟨g1, g2, g3, g4, g5, g6, g7, g8, g9, g10, g11, m2.ok.len, m2.ok.ths⟩, rfl, rfl, m2.len, m1.p1, m1.p2, m2.th⟩
theorem nwP_at {p : Pr} {j : Nat} (hj : j < p.things.length) {t : Th} (a b c : Nat) {i : Nat} (hi : i < p.things.length) : thingAt (nwP p j t a b c) i = if i = j then nwT t a b else thingAt p i := setT_at hj i hi
theorem nwP_len (p : Pr) (j : Nat) (t : Th) (a b c : Nat) : (nwP p j t a b c).things.length = p.things.length := by simp [nwP]
def nwG (g : Gl) (j : Nat) (t : Th) (a b c : Nat) : Gl := ⟨nwP g.f j t a b c, g.s, g.d1, g.d2⟩
theorem glacier_fit {g : Gl} (h : glacierR g = true) : g.f.Ok ∧ g.s.Ok ∧ g.f.things.length = g.s.things.length ∧ (0 ≤ g.d1 ∧ g.d1 < g.d2 ∧ g.d2 ≤ 65536) := by
  simp only [glacierR, within, Bool.and_eq_true, decide_eq_true_eq] at h
  exact ⟨isPair_ok h.1.1.1.1, isPair_ok h.1.1.1.2, by omega, by omega⟩
theorem open_of {g : Gl} (h1 : g.f.Ok) (h2 : g.s.Ok) (hl : g.f.things.length = g.s.things.length) (hd : 0 ≤ g.d1 ∧ g.d1 < g.d2 ∧ g.d2 ≤ 65536) (v : Bool) :
    openG g v = if v then (if isB (allS g.f) && isB (allS g.s) then .ok () else .error 4) else .error 2 := by
  unfold openG
  rw [if_pos (by
    have a1 : ¬ (powerX g.f).2 = 1 := by rcases power_fine h1 with h | h <;> omega
    have a2 : ¬ (powerX g.s).2 = 1 := by rcases power_fine h2 with h | h <;> omega
    simp only [fitG, within, Bool.and_eq_true, decide_eq_true_eq, a1, a2, decide_false, Bool.not_false, and_true]
    omega)]
  cases v with
  | false => rfl
  | true =>
    simp only [if_true]
    rcases power_fine h1 with ⟨a, b, _⟩ | ⟨a, b⟩ <;> rcases power_fine h2 with ⟨c, d, _⟩ | ⟨c, d⟩ <;> simp [a, b, c, d]
/-- What a thing that is seen in the second glacier is in the first one. -/
theorem nw_seen {g : Gl} (hp : g.f.Ok) {x : Pr} (hm : More g.f x) {i : Nat} (h : (distX x i).2 = 0) :
    (distX g.f i).2 = 0 ∧ (distX g.f i).1.1 ≤ (distX x i).1.1 ∧ (distX x i).1.2 ≤ (distX g.f i).1.2 := by
  obtain ⟨hx, ht, hw, hst, he⟩ := dist_ok h
  obtain ⟨k, hk, hi⟩ := thingR_in ht
  have hk' : i = k := by omega
  subst hk'
  rw [hm.len] at hi
  have hwp := hm.isB hp hw
  have hsp := hm.still hp hi hst
  have hd := dist_eq hp (thingR_of hi) hwp
  rw [if_pos hsp] at hd
  have hf := hm.farS hp hi hw hst
  rw [he, hd]
  exact ⟨rfl, hf.1, hf.2⟩
theorem nw_at {g : Gl} (hg : glacierR g = true) {j : Nat} (hj : j < g.f.things.length) {t : Th} (ht : g.f.things[j] = t) (a b c : Nat) {i : Nat} (hs : seenG (nwG g j t a b c) i = true) :
    seenG g i = true ∧ ((mvZ g i).1 ≤ (mvZ (nwG g j t a b c) i).1 ∧ (mvZ (nwG g j t a b c) i).2 ≤ (mvZ g i).2) ∧ (sankZ g i (farG g i)).1 ≤ (sankZ (nwG g j t a b c) i (farG (nwG g j t a b c) i)).1 ∧ (sankZ (nwG g j t a b c) i (farG (nwG g j t a b c) i)).2 ≤ (sankZ g i (farG g i)).2 := by
  obtain ⟨hp, hps, hl, hd⟩ := glacier_fit hg
  have hm := more_nw hp hj ht a b c
  simp only [seenG, Bool.and_eq_true, decide_eq_true_eq] at hs
  have h1 : (distX (nwP g.f j t a b c) i).2 = 0 := hs.1
  have h2 : (distX g.s i).2 = 0 := hs.2
  obtain ⟨n1, n2, n3⟩ := nw_seen hp hm h1
  have r1 := farS_rng h1
  have r0 := farS_rng n1
  obtain ⟨_, k, hk, hi⟩ := dist_in n1
  have hk' : i = k := by omega
  subst hk'
  refine ⟨by simp [seenG, n1, h2], ?_, ?_⟩
  · simp only [mvZ, movedZ, lessZ, farG, nwG]
    omega
  · have hth := (hp.ths t (ht ▸ List.getElem_mem hj)).1.2.1
    have hti := (hp.ths _ (thing_mem hi)).1.2.1
    have f1 := hp.f1
    have f2 := hp.f2
    have e := nwP_at (t := t) hj a b c hi
    have hsub := htP_sub (p := g.f) (x := nwP g.f j t a b c) (t := thingAt g.f i) (u := thingAt (nwP g.f j t a b c) i) (z := (distX g.f i).1) (v := (distX (nwP g.f j t a b c) i).1) f1 (by omega) (by
      rw [e]
      split
      · rename_i hij
        subst hij
        rw [thingAt_eq hj ht]
        obtain ⟨u1, u2, u3⟩ := hth
        simp only [nwT]
        omega
      · obtain ⟨u1, u2, u3⟩ := hti
        omega) ⟨n2, by omega, n3⟩ ⟨by simp only [nwP]; omega, by simp only [nwP]; omega, Int.le_refl _⟩
    simp only [sankZ, lessZ, htG, farG, nwG] at hsub ⊢
    omega
theorem nw_open {g : Gl} (hg : glacierR g = true) {j : Nat} (hj : j < g.f.things.length) {t : Th} (ht : g.f.things[j] = t) (a b c : Nat) (v : Bool) :
    (∀ u, openG (nwG g j t a b c) v = .ok u → openG g v = .ok ()) ∧ (∀ k, openG (nwG g j t a b c) true = .error k → k = 4) := by
  obtain ⟨hp, hps, hl, hd⟩ := glacier_fit hg
  have hm := more_nw hp hj ht a b c
  have h1 : ∀ v, openG (nwG g j t a b c) v = if v then (if isB (allS (nwP g.f j t a b c)) && isB (allS g.s) then .ok () else .error 4) else .error 2 := fun v => open_of (g := nwG g j t a b c) hm.ok hps (by show (nwP g.f j t a b c).things.length = g.s.things.length; rw [nwP_len, hl]) hd v
  constructor
  · intro u h
    rw [h1] at h
    rw [open_of hp hps hl hd]
    cases v with
    | false => cases h
    | true =>
      simp only [if_true] at h ⊢
      split at h
      · rename_i hb
        rw [Bool.and_eq_true] at hb
        rw [hm.isB hp hb.1, hb.2]; rfl
      · cases h
  · intro k h
    rw [h1] at h
    simp only [if_true] at h
    split at h
    · cases h
    · cases h; rfl
theorem stays_none {g : Gl} (h : ¬ (gStays g).2 = 0) : (gStays g).1 = (0, 0) ∧ ∃ k, openG g true = .error k ∧ (gStays g).2 = k := by
  unfold gStays at h ⊢
  cases ho : openG g true with
  | error k => exact ⟨rfl, k, rfl, rfl⟩
  | ok u => rw [ho] at h; exact absurd rfl h
theorem stays_some {g : Gl} (h : (gStays g).2 = 0) : openG g true = .ok () ∧ gStays g = ((((setL (sureB g) (seenL g) : Nat) : Int), ((setL (canB g) (seenL g) : Nat) : Int)), 0) := by
  unfold gStays at h ⊢
  cases ho : openG g true with
  | error k => rw [ho] at h; exact absurd h (Go.Proofs.Ytjijeeadmhpfcaa.open_err0 ho)
  | ok u => exact ⟨rfl, rfl⟩
theorem nw_can {g : Gl} (hg : glacierR g = true) {j : Nat} (hj : j < g.f.things.length) {t : Th} (ht : g.f.things[j] = t) (a b c : Nat) (i : Nat) (h : (setL (canB (nwG g j t a b c)) (seenL (nwG g j t a b c))).testBit i = true) : (setL (canB g) (seenL g)).testBit i = true := by
  rw [setL_bit] at h ⊢
  simp only [Bool.and_eq_true, decide_eq_true_eq, seenL_mem] at h ⊢
  obtain ⟨⟨h1, h2⟩, h3⟩ := h
  obtain ⟨n1, ⟨n2, n3⟩, n4, n5⟩ := nw_at hg hj ht a b c h2
  refine ⟨⟨?_, n1⟩, ?_⟩
  · have : (nwG g j t a b c).f.things.length = g.f.things.length := nwP_len _ _ _ _ _ _
    omega
  · simp only [canB, has0, Bool.and_eq_true, decide_eq_true_eq] at h3 ⊢
    omega
theorem gSank_at {g : Gl} {v : Bool} {u : Unit} (h : openG g v = .ok u) {i : Nat} (hi : i < g.f.things.length) : gSank g i = if seenG g i then (sankZ g i (farG g i), 0) else ((0, 0), 11) := by
  unfold gSank askG
  rw [open_true h, isThing_of hi]
  rfl
/-- The last condition of the law. -/
theorem nw_c {g : Gl} (hg : glacierR g = true) {j : Nat} (hj : j < g.f.things.length) {t : Th} (ht : g.f.things[j] = t) (a b c : Nat) (hx : openG (nwG g j t a b c) true = .ok ()) {i : Nat} (hi : i < g.f.things.length) :
    (gMoved g i).2 = (gSank g i).2 ∧ (gMoved (nwG g j t a b c) i).2 = (gSank (nwG g j t a b c) i).2 ∧ ((gMoved (nwG g j t a b c) i).2 = 0 → (gMoved g i).2 = 0 ∧ (gMoved g i).1.1 ≤ (gMoved (nwG g j t a b c) i).1.1 ∧ (gMoved (nwG g j t a b c) i).1.2 ≤ (gMoved g i).1.2 ∧ (gSank g i).1.1 ≤ (gSank (nwG g j t a b c) i).1.1 ∧ (gSank (nwG g j t a b c) i).1.2 ≤ (gSank g i).1.2) := by
  have ho := (nw_open hg hj ht a b c true).1 _ hx
  have hix : i < (nwG g j t a b c).f.things.length := by show i < (nwP g.f j t a b c).things.length; rw [nwP_len]; exact hi
  rw [gMoved_at ho hi, gMoved_at hx hix, gSank_at ho hi, gSank_at hx hix]
  refine ⟨by split <;> rfl, by split <;> rfl, fun h => ?_⟩
  split at h
  · rename_i hs
    obtain ⟨n1, ⟨n2, n3⟩, n4, n5⟩ := nw_at hg hj ht a b c hs
    rw [if_pos n1, if_pos hs, if_pos n1, if_pos hs]
    exact ⟨rfl, n2, n3, n4, n5⟩
  · cases h
end Go.Pw1
/- Layer 5, plain facts for YearsTurned. -/
set_option linter.unusedSimpArgs false
set_option linter.unusedVariables false
namespace Go.Pw1
open Go Go.Eng
def turnG (g : Gl) : Gl := ⟨g.s, g.f, g.d1, g.d2⟩
def turnA (a : Ga) : Ga := ⟨a.q2, a.b2, a.o2, a.c2, a.q1, a.b1, a.o1, a.c1⟩
theorem GIn.turn {w : World} {g : Gl} {a : Ga} (h : GIn w g a) : GIn w (turnG g) (turnA a) := ⟨h.s2, h.s1, h.l2, h.l1⟩
theorem fitG_turn (g : Gl) : fitG (turnG g) = fitG g := by
  show (decide ((g.s.things.length : Int) = (g.f.things.length : Int)) && within g.d1 0 65536 && within g.d2 0 65536 && decide (g.d1 < g.d2)) = (decide ((g.f.things.length : Int) = (g.s.things.length : Int)) && within g.d1 0 65536 && within g.d2 0 65536 && decide (g.d1 < g.d2))
  rw [show decide ((g.s.things.length : Int) = (g.f.things.length : Int)) = decide ((g.f.things.length : Int) = (g.s.things.length : Int)) from decide_eq_decide.2 ⟨Eq.symm, Eq.symm⟩]
theorem openG_turn (g : Gl) (v : Bool) : openG (turnG g) v = openG g v := by
  unfold openG
  rw [fitG_turn]
  simp only [turnG]
  cases fitG g with
  | false => simp
  | true =>
    rcases powerX_cases g.f with ⟨h1, _⟩ | ⟨h1, _⟩ | ⟨h1, _⟩ <;> rcases powerX_cases g.s with ⟨h3, _⟩ | ⟨h3, _⟩ | ⟨h3, _⟩ <;> simp [h1, h3]
theorem open_thing_turn (g : Gl) (n : Int) : openG (turnG g) (isThingG (turnG g) n) = openG g (isThingG g n) := by
  rw [openG_turn]
  by_cases h : g.f.things.length = g.s.things.length
  · rw [show isThingG (turnG g) n = isThingG g n by simp only [isThingG, turnG, h]]
  · have hf : fitG g = false := by simp [fitG]; intro h2; omega
    unfold openG
    rw [hf]
    simp
theorem seenG_turn (g : Gl) (n : Int) : seenG (turnG g) n = seenG g n := Bool.and_comm _ _
theorem farG_turn (g : Gl) (n : Int) : farG (turnG g) n = ((farG g n).2, (farG g n).1) := rfl
theorem moved_turn (z : Z2) : movedZ (z.2, z.1) = (-(movedZ z).2, -(movedZ z).1) := by
  simp only [movedZ, lessZ, Prod.mk.injEq]; omega
theorem askG_turn {α : Type} (g : Gl) (n : Int) (f f' : Z2 → α) (t : α → α) (none : α) (hn : t none = none) (h : seenG g n = true → f' ((farG g n).2, (farG g n).1) = t (f (farG g n))) : askG (turnG g) n f' none = (t (askG g n f none).1, (askG g n f none).2) := by
  unfold askG
  rw [open_thing_turn, seenG_turn]
  cases openG g (isThingG g n) with
  | error k => simp [hn]
  | ok u =>
    simp only
    split
    · rename_i hs
      rw [farG_turn, h hs]
    · simp [hn]
theorem gMoved_turn (g : Gl) (n : Int) : gMoved (turnG g) n = ((-(gMoved g n).1.2, -(gMoved g n).1.1), (gMoved g n).2) :=
  askG_turn g n movedZ movedZ (fun m => (-m.2, -m.1)) (0, 0) (by simp) (fun _ => moved_turn _)
theorem htG_turn (g : Gl) (n : Int) (z : Z2) : htG (turnG g) n (z.2, z.1) = ((htG g n z).2, (htG g n z).1) := rfl
theorem gHeights_turn (g : Gl) (n : Int) : gHeights (turnG g) n = (((gHeights g n).1.2, (gHeights g n).1.1), (gHeights g n).2) :=
  askG_turn g n (htG g n) (htG (turnG g) n) (fun m => (m.2, m.1)) ((0, 0), (0, 0)) rfl (fun _ => htG_turn g n _)
theorem sank_turn (g : Gl) (n : Int) (z : Z2) : sankZ (turnG g) n (z.2, z.1) = (-(sankZ g n z).2, -(sankZ g n z).1) := by
  simp only [sankZ, htG_turn, lessZ, Prod.mk.injEq]; omega
theorem gSank_turn (g : Gl) (n : Int) : gSank (turnG g) n = ((-(gSank g n).1.2, -(gSank g n).1.1), (gSank g n).2) :=
  askG_turn g n (sankZ g n) (sankZ (turnG g) n) (fun m => (-m.2, -m.1)) (0, 0) (by simp) (fun _ => sank_turn g n _)
theorem seenK_turn (g : Gl) : ∀ k, seenK (turnG g) k = seenK g k
  | 0 => rfl
  | k + 1 => by unfold seenK; rw [seenG_turn, seenK_turn g k]
theorem only0_neg (s : Int × Int) : only0 (-s.2, -s.1) = only0 s := by
  rw [Bool.eq_iff_iff]; simp only [only0, Bool.and_eq_true, decide_eq_true_eq]; omega
theorem has0_neg (s : Int × Int) : has0 (-s.2, -s.1) = has0 s := by
  rw [Bool.eq_iff_iff]; simp only [has0, Bool.and_eq_true, decide_eq_true_eq]; omega
theorem sureB_turn (g : Gl) : sureB (turnG g) = sureB g := funext fun i => by
  unfold sureB mvZ
  rw [farG_turn, moved_turn, sank_turn, only0_neg, only0_neg]
theorem canB_turn (g : Gl) : canB (turnG g) = canB g := funext fun i => by
  unfold canB mvZ
  rw [farG_turn, moved_turn, sank_turn, has0_neg, has0_neg]
theorem gStays_turn (g : Gl) : gStays (turnG g) = gStays g := by
  unfold gStays
  rw [openG_turn, sureB_turn, canB_turn]
  cases ho : openG g true with
  | error k => rfl
  | ok u =>
    have hl := (openG_pairs ho).2.2
    have e : seenL (turnG g) = seenL g := by
      unfold seenL
      rw [seenK_turn]
      show seenK g g.s.things.length = _
      rw [hl]
    simp only [e]
def longG (g : Gl) (d : Int) : Gl := ⟨g.f, g.s, g.d1, d⟩
theorem GIn.long {w : World} {g : Gl} {a : Ga} {d : Int} (h : GIn w g a) : GIn w (longG g d) a := ⟨h.s1, h.s2, h.l1, h.l2⟩
theorem open_long {g : Gl} {v : Bool} {u : Unit} (h : openG g v = .ok u) {d : Int} (h1 : g.d2 ≤ d) (h2 : d ≤ 65536) : openG (longG g d) v = .ok u := by
  have h3 := (openG_ok h).1
  unfold openG at h ⊢
  split at h
  · rename_i hf
    have hf2 : (fitG (longG g d) && !decide ((powerX (longG g d).f).2 = 1) && !decide ((powerX (longG g d).s).2 = 1)) = true := by
      show ((decide ((g.f.things.length : Int) = (g.s.things.length : Int)) && within g.d1 0 65536 && within d 0 65536 && decide (g.d1 < d)) && !decide ((powerX g.f).2 = 1) && !decide ((powerX g.s).2 = 1)) = true
      simp only [fitG, within, Bool.and_eq_true, decide_eq_true_eq] at hf ⊢
      obtain ⟨⟨ha, hb⟩, hc⟩ := hf
      exact ⟨⟨by omega, hb⟩, hc⟩
    rw [if_pos hf2]
    exact h
  · cases h
theorem rate_long {g : Gl} {n : Int} (h : (gMoved g n).2 = 0) {d : Int} (hd : d = 2 * g.d2 - g.d1) (h2 : d ≤ 65536) :
    (gRate g n).2 = 0 ∧ (gRate (longG g d) n).2 = 0 ∧ (gRate (longG g d) n).1.1 = (gRate g n).1.1 / 2 ∧ (gRate (longG g d) n).1.2 = -(-(gRate g n).1.2 / 2) := by
  unfold gMoved askG at h
  cases ho : openG g (isThingG g n) with
  | error k =>
    rw [ho] at h
    exact absurd h (Go.Proofs.Ytjijeeadmhpfcaa.open_err0 ho)
  | ok u =>
    rw [ho] at h
    simp only at h
    split at h
    · rename_i hs
      have h3 := (openG_ok ho).1
      have h4 : openG (longG g d) (isThingG (longG g d) n) = .ok u := open_long ho (by omega) h2
      have e1 : gRate g n = (rateZ g (movedZ (farG g n)), 0) := by
        unfold gRate askG
        rw [ho]
        simp only
        rw [if_pos hs]
      have e2 : gRate (longG g d) n = (rateZ (longG g d) (movedZ (farG g n)), 0) := by
        unfold gRate askG
        rw [h4]
        simp only
        rw [show seenG (longG g d) n = seenG g n from rfl, if_pos hs]
        rfl
      rw [e1, e2]
      refine ⟨rfl, rfl, ?_, ?_⟩
      · simp only [rateZ, longG]
        rw [Int.ediv_ediv_of_nonneg (by omega), show d - g.d1 = (g.d2 - g.d1) * 2 by omega]
      · simp only [rateZ, longG, Int.neg_neg]
        rw [Int.ediv_ediv_of_nonneg (by omega), show d - g.d1 = (g.d2 - g.d1) * 2 by omega]
    · cases h
end Go.Pw1
/- The engine: structs and arrays of numbers and truth values, compared. No program is in sight. -/
namespace Go.Eng
open Go Go.RowKit
/-- Fields that are compared by g. -/
def eqFs (P : Program) (g : TypeId → List Value → List Value → Option Bool) (cs es : List Value) : List Field → Option Bool
  | [] => some true
  | f :: fs => if f.name = "_" then none else
    match g f.type ((cs.drop f.offset).take (P.cellsOf f.type)) ((es.drop f.offset).take (P.cellsOf f.type)), eqFs P g cs es fs with
    | some a, some b => some (a && b)
    | _, _ => none
def eqIs (P : Program) (g : TypeId → List Value → List Value → Option Bool) (e : TypeId) (cs es : List Value) : List Nat → Option Bool
  | [] => some true
  | i :: is => match g e ((cs.drop (i * P.cellsOf e)).take (P.cellsOf e)) ((es.drop (i * P.cellsOf e)).take (P.cellsOf e)), eqIs P g e cs es is with
    | some a, some b => some (a && b)
    | _, _ => none
/-- Are values of a type, cell by cell, the same? -/
def eqF (P : Program) : Nat → TypeId → List Value → List Value → Option Bool
  | 0, _, _, _ => none
  | m + 1, t, cs, es => match P.underlying t with
    | some (.int _) => match cs, es with
      | [.int k a], [.int k' b] => if k = k' then some (decide (a = b)) else none
      | _, _ => none
    | some .bool => match cs, es with
      | [.bool a], [.bool b] => some (a == b)
      | _, _ => none
    | some (.struct fs) => if P.stoodInHeld t = false ∧ cs.length = P.cellsOf t ∧ es.length = P.cellsOf t then eqFs P (eqF P m) cs es fs.toList else none
    | some (.array n e) => if n ≠ 0 ∧ cs.length = P.cellsOf t ∧ es.length = P.cellsOf t then eqIs P (eqF P m) e cs es (List.range n) else none
    | _ => none
def valOf (P : Program) (t : TypeId) (cs : List Value) : Value := match P.underlying t with
  | some (.struct _) => .agg cs.toArray
  | some (.array _ _) => .agg cs.toArray
  | _ => cs.headD undef
section
variable {P : Program}
theorem part_of {m off : Nat} {t : TypeId} {xs es : List Value} {w : World} {b : Bool} (h : eqF P m t ((xs.drop off).take (P.cellsOf t)) es = some b) : (part t xs.toArray off).run P w = .ok (valOf P t ((xs.drop off).take (P.cellsOf t))) w := by
  cases m with
  | zero => cases h
  | succ m =>
    unfold eqF at h
    cases hu : P.underlying t with
    | none => simp [hu] at h
    | some d =>
      rw [hu] at h
      have plain : ∀ v, (xs.drop off).take (P.cellsOf t) = [v] → xs[off]? = some v := fun v hv => by
        have h1 : ((xs.drop off).take (P.cellsOf t))[0]? = some v := by rw [hv]; rfl
        rw [List.getElem?_take] at h1
        split at h1
        · simpa using h1
        · cases h1
      have agg : isAggD d = true → (part t xs.toArray off).run P w = .ok (.agg ((xs.drop off).take (P.cellsOf t)).toArray) w := fun ha => by
        obtain ⟨i, hi⟩ := info_of_underlying hu
        have hc : P.cellsOf t = i.size := by simp [Program.cellsOf, hi]
        have e : xs.toArray.extract off (off + i.size) = ((xs.drop off).take (P.cellsOf t)).toArray := by
          rw [hc]
          simp
        cases d <;> simp [isAggD] at ha <;> simp [part, isAgg, run_underlying hu, sizeOf, typeInfo, hi, ← e]
      unfold valOf
      rw [hu]
      cases d with
      | int k =>
        simp only at h ⊢
        split at h
        · rename_i a _ _ hv
          rw [hv]
          exact run_part1 hu rfl (by simpa using plain _ hv)
        · cases h
      | bool =>
        simp only at h ⊢
        split at h
        · rename_i a _ hv
          rw [hv]
          exact run_part1 hu rfl (by simpa using plain _ hv)
        · cases h
      | struct fs => exact agg rfl
      | array n e => exact agg rfl
      | _ => simp at h
theorem part_of2 {m off : Nat} {t : TypeId} {xs cs : List Value} {w : World} {b : Bool} (h : eqF P m t cs ((xs.drop off).take (P.cellsOf t)) = some b) : (part t xs.toArray off).run P w = .ok (valOf P t ((xs.drop off).take (P.cellsOf t))) w := by
  have h2 : ∃ b, eqF P m t ((xs.drop off).take (P.cellsOf t)) ((xs.drop off).take (P.cellsOf t)) = some b := by
    have sym : ∀ (m : Nat) (t : TypeId) (cs es : List Value) (b : Bool), eqF P m t cs es = some b → ∃ b, eqF P m t es es = some b := by
      intro m
      induction m with
      | zero => intro t cs es b h; cases h
      | succ m ih =>
        intro t cs es b h
        unfold eqF at h ⊢
        split at h
        · split at h
          · split at h
            · rename_i hk; subst hk; exact ⟨_, by simp; rfl⟩
            · cases h
          · cases h
        · split at h
          · exact ⟨_, by simp; rfl⟩
          · cases h
        · rename_i fs _
          split at h
          · rename_i hc
            rw [if_pos ⟨hc.1, hc.2.2, hc.2.2⟩]
            generalize fs.toList = l at h
            induction l generalizing b with
            | nil => exact ⟨true, rfl⟩
            | cons f l ihl =>
              unfold eqFs at h ⊢
              split at h
              · cases h
              · rename_i hn
                rw [if_neg hn]
                split at h
                · rename_i a b' h1 h2
                  obtain ⟨u, hu⟩ := ih _ _ _ _ h1
                  obtain ⟨v, hv⟩ := ihl _ h2
                  rw [hu, hv]; exact ⟨_, rfl⟩
                · cases h
          · cases h
        · rename_i n e _
          split at h
          · rename_i hc
            rw [if_pos ⟨hc.1, hc.2.2, hc.2.2⟩]
            generalize List.range n = l at h
            induction l generalizing b with
            | nil => exact ⟨true, rfl⟩
            | cons i l ihl =>
              unfold eqIs at h ⊢
              split at h
              · rename_i a b' h1 h2
                obtain ⟨u, hu⟩ := ih _ _ _ _ h1
                obtain ⟨v, hv⟩ := ihl _ h2
                rw [hu, hv]; exact ⟨_, rfl⟩
              · cases h
          · cases h
        · cases h
    exact sym _ _ _ _ _ h
  obtain ⟨b2, h2⟩ := h2
  exact part_of h2
theorem run_eqF (d : Nat) : ∀ (m : Nat) (t : TypeId) (cs es : List Value) (b : Bool) (w : World), eqF P m t cs es = some b → (Op.equalIn (d + m) t (valOf P t cs) (valOf P t es)).run P w = .ok b w := by
  intro m
  induction m with
  | zero => intro t cs es b w h; cases h
  | succ m ih =>
    intro t cs es b w h
    unfold eqF at h
    unfold valOf
    rw [show d + (m + 1) = (d + m) + 1 from rfl]
    cases hu : P.underlying t with
    | none => simp [hu] at h
    | some dd =>
      rw [hu] at h
      cases dd with
      | int k =>
        simp only at h ⊢
        split at h
        · split at h
          · rename_i hk
            cases h
            subst hk
            rw [List.headD_cons, List.headD_cons, run_equal_int hu]
            rfl
          · cases h
        · cases h
      | bool =>
        simp only at h ⊢
        split at h
        · cases h
          rw [List.headD_cons, List.headD_cons, run_equalIn_bool w _ _ _ _ hu]
        · cases h
      | struct fs =>
        simp only at h ⊢
        split at h
        · rename_i hc
          have hfs : P.fieldsOf t = fs := by simp [Program.fieldsOf, hu]
          rw [run_equalIn_struct w (d + m) t _ _ (by rw [hfs]; exact hu) hc.1, hfs]
          generalize fs.toList = l at h
          induction l generalizing b with
          | nil => cases h; simp [Op.eqFields]
          | cons f l ihl =>
            unfold eqFs at h
            split at h
            · cases h
            · rename_i hn
              split at h
              · rename_i a b' h1 h2
                cases h
                unfold Op.eqFields
                rw [if_pos hn]
                simp only [Sem.run_bind, part_of h1, part_of2 h1, Result.andThen_ok, ih _ _ _ _ w h1]
                cases a with
                | true => simpa using ihl _ h2
                | false => simp
              · cases h
        · cases h
      | array n e =>
        simp only at h ⊢
        split at h
        · rename_i hc
          have hn := hc.1
          have hie : ∃ i, P.info? e = some i := by
            have h0 : List.range n = 0 :: (List.range' 1 (n - 1)) := by
              rw [List.range_eq_range']
              cases n with
              | zero => exact absurd rfl hn
              | succ n => simp [List.range'_succ]
            rw [h0] at h
            unfold eqIs at h
            split at h
            · rename_i a b' h1 h2
              cases m with
              | zero => cases h1
              | succ m =>
                unfold eqF at h1
                cases hue : P.underlying e with
                | none => simp [hue] at h1
                | some _ => exact info_of_underlying hue
            · cases h
          obtain ⟨i, hi⟩ := hie
          rw [run_equalIn_array w (d + m) _ _ hu hi]
          generalize List.range n = l at h
          induction l generalizing b with
          | nil => cases h; simp [Op.eqItems]
          | cons j l ihl =>
            unfold eqIs at h
            split at h
            · rename_i a b' h1 h2
              cases h
              unfold Op.eqItems
              simp only [Sem.run_bind, part_of h1, part_of2 h1, Result.andThen_ok, ih _ _ _ _ w h1]
              cases a with
              | true => simpa using ihl _ h2
              | false => simp
            · cases h
        · cases h
      | _ => simp at h
end
section
variable {P : Program} {ops : Array Oper} {Q : Exit → Act → World → Prop} {n : Nat} {r : Regs} {ds : List Deferred} {W : World} {chg news : Blks} {rest : List Oper}
variable {d : Nat} {ty : TypeId} {pos : String} {after : Array Edge} {dst : Option Tmp} {gd : Option (Nat × Bool)}
/-- A type of structs or arrays that is compared without a guard. -/
def aggB (P : Program) (T : TypeId) : Bool := !P.eqGuardType P.depth T && match P.underlying T with | some (.struct _) => true | some (.array _ _) => true | _ => false
theorem aggB_spec {T : TypeId} (h : aggB P T = true) (cs : List Value) : P.eqGuardType P.depth T = false ∧ valOf P T cs = .agg cs.toArray := by
  simp only [aggB, Bool.and_eq_true, Bool.not_eq_true'] at h
  refine ⟨h.1, ?_⟩
  have h2 := h.2
  unfold valOf
  split at h2 <;> simp_all
theorem Val.eql_flat {x y : Operand} {T yt : TypeId} {cs es : List Value} {b : Bool} (hx : rev r x = some (.agg cs.toArray)) (hy : rev r y = some (.agg es.toArray)) (h : aggB P T = true) (he : eqF P 8 T cs es = some b) :
    Val P r W chg news { dst, op := .binOp .eql T x y yt, type := ty, pos, after, guard := gd } (.bool b) :=
  ⟨fun ac w ha _ => by
    have h1 := run_eqF 9992 8 T cs es b w he
    rw [(aggB_spec h cs).2, (aggB_spec h es).2] at h1
    have h2 : (Op.equal T (.agg cs.toArray) (.agg es.toArray)).run P w = .ok b w := h1
    simp [execOp, ha.eval hx, ha.eval hy, eqGuard, (aggB_spec h cs).1, binOp, h2]⟩
theorem Val.neq_flat {x y : Operand} {T yt : TypeId} {cs es : List Value} {b : Bool} (hx : rev r x = some (.agg cs.toArray)) (hy : rev r y = some (.agg es.toArray)) (h : aggB P T = true) (he : eqF P 8 T cs es = some b) :
    Val P r W chg news { dst, op := .binOp .neq T x y yt, type := ty, pos, after, guard := gd } (.bool (!b)) :=
  ⟨fun ac w ha _ => by
    have h1 := run_eqF 9992 8 T cs es b w he
    rw [(aggB_spec h cs).2, (aggB_spec h es).2] at h1
    have h2 : (Op.equal T (.agg cs.toArray) (.agg es.toArray)).run P w = .ok b w := h1
    simp [execOp, ha.eval hx, ha.eval hy, eqGuard, (aggB_spec h cs).1, binOp, h2]⟩
end
end Go.Eng
/- The facts on the tables of types and on the entries of functions that the later walks use. Written by program. -/
set_option linter.unusedSimpArgs false
set_option linter.unusedVariables false
namespace Go.Proofs.Ytjijeeadmhpfcaa
open Go Go.Eng
theorem ap_24 : apB Try.prog 24 = some (54, 9, 72) := by kernel_rfl
theorem ent_26 : Enters Try.prog 26 := enters_of Try.func26 (by kernel_rfl) rfl
theorem ent_28 : Enters Try.prog 28 := enters_of Try.func28 (by kernel_rfl) rfl
theorem ent_30 : Enters Try.prog 30 := enters_of Try.func30 (by kernel_rfl) rfl
theorem ent_32 : Enters Try.prog 32 := enters_of Try.func32 (by kernel_rfl) rfl
theorem eqB_54 : aggB Try.prog 54 = true := by kernel_rfl
theorem kl_54 (a0 : Int) (a1 : Int) (a2 : Int) (a3 : Int) (a4 : Int) (a5 : Int) (a6 : Int) (a7 : Int) (a8 : Int) (c0 : Int) (c1 : Int) (c2 : Int) (c3 : Int) (c4 : Int) (c5 : Int) (c6 : Int) (c7 : Int) (c8 : Int) : eqF Try.prog 8 54 [.int .i64 a0, .int .i64 a1, .int .i64 a2, .int .i64 a3, .int .i64 a4, .int .i64 a5, .int .i64 a6, .int .i64 a7, .int .i64 a8] [.int .i64 c0, .int .i64 c1, .int .i64 c2, .int .i64 c3, .int .i64 c4, .int .i64 c5, .int .i64 c6, .int .i64 c7, .int .i64 c8] = some (((decide (a0 = c0) && (decide (a1 = c1) && true)) && ((decide (a2 = c2) && (decide (a3 = c3) && true)) && true)) && (((decide (a4 = c4) && (decide (a5 = c5) && true)) && ((decide (a6 = c6) && (decide (a7 = c7) && true)) && true)) && (decide (a8 = c8) && true))) := by kernel_rfl
theorem sl_42 : slB Try.prog 42 = some (46, 1) := by kernel_rfl
theorem ty_42 : tyB Try.prog 42 = some (false, 1) := by kernel_rfl
theorem ty_46 : tyB Try.prog 46 = some (false, 1) := by kernel_rfl
end Go.Proofs.Ytjijeeadmhpfcaa
/- Walks of the laws of layer 5: YearsTurned. -/
set_option linter.unusedSimpArgs false
set_option linter.unusedVariables false
namespace Go.Proofs.Ytjijeeadmhpfcaa
open Go Go.Eng Go.Pw1

theorem th_len (t : Th) : t.cells.length = 9 := rfl
theorem th_one (t : Th) : t.cells.all (·.oneCell') = true := rfl
theorem th_rows {l : List Th} : ∀ x ∈ l.map Th.cells, x.length = 9 := fun x hx => by obtain ⟨t, _, rfl⟩ := List.mem_map.1 hx; rfl
theorem turned_c {g : Gl} {n : Int} : gMoved (turnG g) n = ((-(gMoved g n).1.2, -(gMoved g n).1.1), (gMoved g n).2) ∧ gHeights (turnG g) n = (((gHeights g n).1.2, (gHeights g n).1.1), (gHeights g n).2) ∧ gSank (turnG g) n = ((-(gSank g n).1.2, -(gSank g n).1.1), (gSank g n).2) ∧ gStays (turnG g) = gStays g :=
  ⟨gMoved_turn g n, gHeights_turn g n, gSank_turn g n, gStays_turn g⟩
theorem gSank_bd (g : Gl) (n : Int) : (-20000000000000 ≤ (gSank g n).1.1 ∧ (gSank g n).1.1 ≤ 20000000000000) ∧ -20000000000000 ≤ (gSank g n).1.2 ∧ (gSank g n).1.2 ≤ 20000000000000 := by
  unfold gSank
  rw [ask_see]
  split
  · rename_i h
    obtain ⟨-, hs, hz⟩ := seeG_ok h
    rw [hz]
    have := sank_bd hs (farG_ok g n)
    simp only [sankZ, lessZ]
    omega
  · simp
theorem gRate_bd (g : Gl) (n : Int) : (-500000000000 ≤ (gRate g n).1.1 ∧ (gRate g n).1.1 ≤ 500000000000) ∧ -500000000000 ≤ (gRate g n).1.2 ∧ (gRate g n).1.2 ≤ 500000000000 := by
  unfold gRate
  rw [ask_see]
  split
  · rename_i h
    obtain ⟨ho, hs, hz⟩ := seeG_ok h
    rw [hz]
    have h1 := movedZ_bd (farG_ok g n)
    have h2 := (openG_ok ho).1
    have h3 := ediv_bd (a := (movedZ (farG g n)).1 * 365) (b := g.d2 - g.d1) (M := 500000000000) (by omega) (by omega)
    have h4 := ediv_bd (a := -((movedZ (farG g n)).2 * 365)) (b := g.d2 - g.d1) (M := 500000000000) (by omega) (by omega)
    simp only [rateZ]
    omega
  · simp
set_option maxHeartbeats 1000000 in
theorem turned_calls (g : Gl) (a : Ga) (n : Int) (W : World) (hS : GSl W g a) : Calls Try.prog 8 #[g.v a, .int .i64 n] W (Pure (.bool true) W) := by
  obtain ⟨tM, tH, tS, tSt⟩ := turned_c (g := g) (n := n)
  have bM := gMoved_bd g n
  have bS := gSank_bd g n
  have bR := gRate_bd g n
  refine calls_start Try.func8 rfl rfl ?_
  refine RunC.seq ?_
  refine RunC.region ?_
  refine RunL.new (New.box rfl) rfl rfl rfl (fun b2 => ?_)
  refine RunL.val (Val.pure rfl) rfl rfl rfl ?_
  refine RunL.nil ?_
  refine RunE.next ?_
  refine RunC.seq ?_
  refine RunC.seq ?_
  refine RunC.region ?_
  refine RunL.val (Val.load_agg rfl (.head _) ty_28 rfl) rfl rfl rfl ?_
  refine RunL.callP (isCall_func rfl ent_9) rfl rfl rfl (fun w hm => great_calls g a 12 w (hS.mono hm)) ?_
  refine RunL.nil ?_
  refine RunE.next ?_
  refine RunC.cond rfl ?_ ?_
  · intro c0
    have c0' := c0; clear c0
    try simp only [decide_eq_true_eq, decide_eq_false_iff_not, Bool.not_eq_true', Bool.not_eq_false', Bool.and_eq_true, Bool.or_eq_true, Bool.and_eq_false_iff, Bool.or_eq_false_iff, Int.not_le, Int.not_lt] at c0'
    refine RunC.seq ?_
    refine RunC.region ?_
    refine RunL.callP (isCall_func rfl ent_10) rfl rfl rfl (fun w hm => alive_calls w) ?_
    refine RunL.val (Val.pure rfl) rfl rfl rfl ?_
    refine RunL.nil ?_
    refine RunE.next ?_
    refine RunC.ret ?_
    refine RunE.pass_ret ?_
    exact RunE.retP (.r1 rfl (.tmp rfl)) (by first | rfl | simp)
  · intro c0
    have c0' := c0; clear c0
    try simp only [decide_eq_true_eq, decide_eq_false_iff_not, Bool.not_eq_true', Bool.not_eq_false', Bool.and_eq_true, Bool.or_eq_true, Bool.and_eq_false_iff, Bool.or_eq_false_iff, Int.not_le, Int.not_lt] at c0'
    obtain ⟨hG, hl1, hl2⟩ := great_no c0' hS
    refine RunC.skip ?_
    refine RunE.next ?_
    refine RunC.seq ?_
    apply RunC.drawJ (J := J2 _ _ _ _ _ _) 5 fol_ (.cons .here rfl .nil)
    · refine RunA.val (i := 0) rfl (by kernel_rfl) (by kernel_rfl) (Val.load_agg rfl (.head _) ty_28 rfl) rfl rfl rfl (fun _ _ _ h => h) (.cons .here rfl .nil) rfl ?_
      refine RunA.val (i := 1) rfl (by kernel_rfl) (by kernel_rfl) (Val.load_agg rfl (.head _) ty_28 rfl) rfl rfl rfl (fun _ _ _ h => h) (.cons .here rfl .nil) rfl ?_
      refine RunA.all (rs := [2, 3]) (by kernel_rfl) (by simp) (by kernel_rfl) (fun m hm => ?_)
      simp only [List.mem_cons, List.not_mem_nil, or_false] at hm
      rcases hm with rfl | rfl
      · refine RunI.new rfl (New.alloc zero_28) rfl rfl rfl (fun b5 => (RunK.toA (.cons (.there .here) rfl .nil) (.cons .here rfl .nil) rfl ?_))
        refine RunA.one (i := 3) (by kernel_rfl) (by kernel_rfl) ?_
        refine RunI.new rfl (New.alloc zero_28) rfl rfl rfl (fun b6 => (RunK.toA (.cons .here rfl (.cons (.there .here) rfl .nil)) (.cons (.there .here) rfl .nil) rfl ?_))
        refine RunA.one (i := 4) (by kernel_rfl) (by kernel_rfl) ?_
        refine RunI.sto rfl (Sto.store rfl rfl (.there .here) ty_28 rfl rfl) rfl rfl (RunK.toA (.cons .here rfl (.cons (.there .here) rfl .nil)) (.cons .here rfl (.cons .here rfl .nil)) rfl ?_)
        refine RunA.toB (by kernel_rfl) ?_
        refine RunB.one (i := 5) (by kernel_rfl) ?_
        refine RunI.sto rfl (Sto.store rfl rfl .here ty_28 rfl rfl) rfl rfl (RunK.toB ?_)
        refine RunB.done (by kernel_rfl) ?_
        exact RunE.join2 b5 b6 (Sub.refl _) (Pick.refl _)
      · refine RunI.new rfl (New.alloc zero_28) rfl rfl rfl (fun b6 => (RunK.toA (.cons .here rfl (.cons .here rfl .nil)) (.cons (.there .here) rfl .nil) rfl ?_))
        refine RunA.one (i := 2) (by kernel_rfl) (by kernel_rfl) ?_
        refine RunI.new rfl (New.alloc zero_28) rfl rfl rfl (fun b5 => (RunK.toA (.cons (.there .here) rfl (.cons (.there .here) rfl .nil)) (.cons .here rfl (.cons .here rfl .nil)) rfl ?_))
        refine RunA.one (i := 4) (by kernel_rfl) (by kernel_rfl) ?_
        refine RunI.sto rfl (Sto.store rfl rfl .here ty_28 rfl rfl) rfl rfl (RunK.toA (.cons (.there .here) rfl (.cons (.there .here) rfl .nil)) (.cons .here rfl (.cons .here rfl .nil)) rfl ?_)
        refine RunA.toB (by kernel_rfl) ?_
        refine RunB.one (i := 5) (by kernel_rfl) ?_
        refine RunI.sto rfl (Sto.store rfl rfl (.there .here) ty_28 rfl rfl) rfl rfl (RunK.toB ?_)
        refine RunB.done (by kernel_rfl) ?_
        exact RunE.join2 b5 b6 (Sub.cons (t := 6) rfl (Sub.cons (t := 5) rfl (Sub.cons (t := 37) rfl (Sub.cons (t := 36) rfl (Sub.skip rfl (Sub.skip rfl (Sub.skip rfl (Sub.skip rfl (Sub.refl _))))))))) (.cons (.there .here) rfl (.cons .here rfl (.cons .here rfl .nil)))
    refine J2.out (fun b5 b6 => ?_)
    refine RunE.next ?_
    refine RunC.seq ?_
    refine RunC.draw 6 fol_ (.cons .here rfl (.cons (.there .here) rfl .nil)) ?_
    refine RunA.val (i := 0) rfl (by kernel_rfl) (by kernel_rfl) (Val.fieldAddr rfl fld_28_1) rfl rfl rfl (fun _ _ _ h => h) (.cons .here rfl (.cons (.there .here) rfl .nil)) rfl ?_
    refine RunA.val (i := 1) rfl (by kernel_rfl) (by kernel_rfl) (Val.load_agg rfl (.tail _ (.head _)) ty_26 rfl) rfl rfl rfl (fun _ _ _ h => h) (.cons .here rfl (.cons (.there .here) rfl .nil)) rfl ?_
    refine RunA.val (i := 2) rfl (by kernel_rfl) (by kernel_rfl) (Val.fieldAddr rfl fld_28_0) rfl rfl rfl (fun _ _ _ h => h) (.cons .here rfl (.cons (.there .here) rfl .nil)) rfl ?_
    refine RunA.val (i := 3) rfl (by kernel_rfl) (by kernel_rfl) (Val.load_agg rfl (.tail _ (.head _)) ty_26 rfl) rfl rfl rfl (fun _ _ _ h => h) (.cons .here rfl (.cons (.there .here) rfl .nil)) rfl ?_
    refine RunA.val (i := 4) rfl (by kernel_rfl) (by kernel_rfl) (Val.fieldAddr rfl fld_28_0) rfl rfl rfl (fun _ _ _ h => h) (.cons .here rfl (.cons (.there .here) rfl .nil)) rfl ?_
    refine RunA.one (i := 5) (by kernel_rfl) (by kernel_rfl) ?_
    refine RunI.sto rfl (Sto.store rfl rfl (.there .here) ty_26 rfl rfl) rfl rfl (RunK.toA (.cons .here rfl (.cons (.there .here) rfl .nil)) (.cons .here rfl (.cons .here rfl .nil)) rfl ?_)
    refine RunA.toB (by kernel_rfl) ?_
    refine RunB.one (i := 6) (by kernel_rfl) ?_
    refine RunI.val rfl (Val.fieldAddr rfl fld_28_1) rfl rfl rfl (RunK.toB ?_)
    refine RunB.one (i := 7) (by kernel_rfl) ?_
    refine RunI.sto rfl (Sto.store rfl rfl (.there .here) ty_26 rfl rfl) rfl rfl (RunK.toB ?_)
    refine RunB.done (by kernel_rfl) ?_
    refine RunE.next ?_
    refine RunC.seq ?_
    refine RunC.region ?_
    refine RunL.new (New.buildSlice0 sl_24) rfl rfl rfl (fun b44 => ?_)
    refine RunL.val (Val.fieldAddr rfl fld_28_0) rfl rfl rfl ?_
    refine RunL.val (Val.fieldAddr rfl fld_26_5) rfl rfl rfl ?_
    refine RunL.val (Val.load_one rfl (.tail _ (.tail _ (.tail _ (.head _)))) ty_24 rfl) rfl rfl rfl ?_
    refine RunL.keep (Sub.refl _) (.cons (.there .here) rfl (.cons (.there .here) rfl (.cons (.there .here) rfl (.cons .here rfl .nil)))) ?_
    refine RunL.append (A := [(b6, _), (b5, _), (b2, _)]) (B := _) (x := (some (b44, 0, []))) (ys := (g.f.things.map Th.cells).flatten) ap_24 rfl rfl rfl OwnOk.empty (flat_len th_len _) hS.n1 (fun w hm => ((hS.mono hm).s1).flat (by decide)) (one_flat th_one _) (by simp only [maxLen]; omega) (by omega) rfl (fun z48 hz48 => ?_)
    refine RunL.val (Val.pure rfl) rfl rfl rfl ?_
    refine RunL.nil ?_
    refine RunE.next ?_
    refine RunC.seq ?_
    refine RunC.region ?_
    refine RunL.val (Val.load_agg rfl (.tail _ (.tail _ (.head _))) ty_28 rfl) rfl rfl rfl ?_
    refine RunL.val (Val.pure rfl) rfl rfl rfl ?_
    refine RunL.callP (isCall_func rfl ent_11) rfl rfl rfl (fun w hm => yMoved_calls g a n w (hG.mono hm)) ?_
    iterate 3 refine RunL.val (Val.pure rfl) rfl rfl rfl ?_
    refine RunL.new (New.alloc zero_23) rfl rfl rfl (fun b8 => ?_)
    refine RunL.sto (Sto.store rfl rfl .here ty_23 rfl rfl) rfl rfl ?_
    refine RunL.val (Val.pure rfl) rfl rfl rfl ?_
    refine RunL.nil ?_
    refine RunE.next ?_
    refine RunC.seq ?_
    refine RunC.region ?_
    refine RunL.val (Val.load_agg rfl (.tail _ (.tail _ (.head _))) ty_28 rfl) rfl rfl rfl ?_
    refine RunL.val (Val.pure rfl) rfl rfl rfl ?_
    refine RunL.callP (isCall_func rfl ent_11) rfl rfl rfl (fun w hm => yMoved_calls (turnG g) (turnA a) n w (hG.mono hm).turn) ?_
    iterate 3 refine RunL.val (Val.pure rfl) rfl rfl rfl ?_
    refine RunL.new (New.alloc zero_23) rfl rfl rfl (fun b10 => ?_)
    refine RunL.sto (Sto.store rfl rfl .here ty_23 rfl rfl) rfl rfl ?_
    refine RunL.val (Val.pure rfl) rfl rfl rfl ?_
    refine RunL.nil ?_
    refine RunE.next ?_
    refine RunC.seq ?_
    refine RunC.region ?_
    refine RunL.val (Val.load_agg rfl (.tail _ (.tail _ (.tail _ (.tail _ (.head _))))) ty_28 rfl) rfl rfl rfl ?_
    refine RunL.val (Val.pure rfl) rfl rfl rfl ?_
    refine RunL.callP (isCall_func rfl ent_13) rfl rfl rfl (fun w hm => yHeights_calls g a n w (hG.mono hm)) ?_
    iterate 4 refine RunL.val (Val.pure rfl) rfl rfl rfl ?_
    refine RunL.new (New.alloc zero_23) rfl rfl rfl (fun b12 => ?_)
    refine RunL.new (New.alloc zero_23) rfl rfl rfl (fun b13 => ?_)
    refine RunL.sto (Sto.store rfl rfl (.there .here) ty_23 rfl rfl) rfl rfl ?_
    refine RunL.sto (Sto.store rfl rfl .here ty_23 rfl rfl) rfl rfl ?_
    refine RunL.val (Val.pure rfl) rfl rfl rfl ?_
    refine RunL.nil ?_
    refine RunE.next ?_
    refine RunC.seq ?_
    refine RunC.region ?_
    refine RunL.val (Val.load_agg rfl (.tail _ (.tail _ (.tail _ (.tail _ (.tail _ (.head _)))))) ty_28 rfl) rfl rfl rfl ?_
    refine RunL.val (Val.pure rfl) rfl rfl rfl ?_
    refine RunL.callP (isCall_func rfl ent_13) rfl rfl rfl (fun w hm => yHeights_calls (turnG g) (turnA a) n w (hG.mono hm).turn) ?_
    iterate 4 refine RunL.val (Val.pure rfl) rfl rfl rfl ?_
    refine RunL.new (New.alloc zero_23) rfl rfl rfl (fun b15 => ?_)
    refine RunL.new (New.alloc zero_23) rfl rfl rfl (fun b16 => ?_)
    refine RunL.sto (Sto.store rfl rfl (.there .here) ty_23 rfl rfl) rfl rfl ?_
    refine RunL.sto (Sto.store rfl rfl .here ty_23 rfl rfl) rfl rfl ?_
    refine RunL.val (Val.pure rfl) rfl rfl rfl ?_
    refine RunL.nil ?_
    refine RunE.next ?_
    refine RunC.seq ?_
    refine RunC.region ?_
    refine RunL.val (Val.load_agg rfl (.tail _ (.tail _ (.tail _ (.tail _ (.tail _ (.tail _ (.tail _ (.tail _ (.head _))))))))) ty_28 rfl) rfl rfl rfl ?_
    refine RunL.callP (isCall_func rfl ent_24) rfl rfl rfl (fun w hm => yStays_calls g a w (hG.mono hm)) ?_
    iterate 7 refine RunL.val (Val.pure rfl) rfl rfl rfl ?_
    refine RunL.nil ?_
    refine RunE.next ?_
    refine RunC.seq ?_
    refine RunC.region ?_
    refine RunL.val (Val.load_agg rfl (.tail _ (.tail _ (.tail _ (.tail _ (.tail _ (.tail _ (.tail _ (.head _)))))))) ty_28 rfl) rfl rfl rfl ?_
    refine RunL.callP (isCall_func rfl ent_24) rfl rfl rfl (fun w hm => yStays_calls (turnG g) (turnA a) w (hG.mono hm).turn) ?_
    iterate 7 refine RunL.val (Val.pure rfl) rfl rfl rfl ?_
    refine RunL.nil ?_
    refine RunE.next ?_
    refine RunC.seq ?_
    refine RunC.region ?_
    refine RunL.val (Val.load_agg rfl (.tail _ (.tail _ (.tail _ (.tail _ (.tail _ (.tail _ (.tail _ (.tail _ (.head _))))))))) ty_28 rfl) rfl rfl rfl ?_
    refine RunL.val (Val.pure rfl) rfl rfl rfl ?_
    refine RunL.callP (isCall_func rfl ent_15) rfl rfl rfl (fun w hm => ySank_calls g a n w (hG.mono hm)) ?_
    iterate 3 refine RunL.val (Val.pure rfl) rfl rfl rfl ?_
    refine RunL.new (New.alloc zero_23) rfl rfl rfl (fun b24 => ?_)
    refine RunL.sto (Sto.store rfl rfl .here ty_23 rfl rfl) rfl rfl ?_
    refine RunL.val (Val.pure rfl) rfl rfl rfl ?_
    refine RunL.nil ?_
    refine RunE.next ?_
    refine RunC.seq ?_
    refine RunC.region ?_
    refine RunL.val (Val.load_agg rfl (.tail _ (.tail _ (.tail _ (.tail _ (.tail _ (.tail _ (.tail _ (.tail _ (.head _))))))))) ty_28 rfl) rfl rfl rfl ?_
    refine RunL.val (Val.pure rfl) rfl rfl rfl ?_
    refine RunL.callP (isCall_func rfl ent_15) rfl rfl rfl (fun w hm => ySank_calls (turnG g) (turnA a) n w (hG.mono hm).turn) ?_
    iterate 3 refine RunL.val (Val.pure rfl) rfl rfl rfl ?_
    refine RunL.new (New.alloc zero_23) rfl rfl rfl (fun b26 => ?_)
    refine RunL.sto (Sto.store rfl rfl .here ty_23 rfl rfl) rfl rfl ?_
    refine RunL.val (Val.pure rfl) rfl rfl rfl ?_
    refine RunL.nil ?_
    refine RunE.next ?_
    refine RunC.seq ?_
    refine RunC.seq ?_
    refine RunC.region ?_
    iterate 4 refine RunL.val (Val.pure rfl) rfl rfl rfl ?_
    refine RunL.sure (dj := 102) false rfl (by simp [tM]) ?_
    iterate 5 refine RunL.val (Val.pure rfl) rfl rfl rfl ?_
    refine RunL.sure (dj := 107) false rfl (by simp [tH]) ?_
    iterate 5 refine RunL.val (Val.pure rfl) rfl rfl rfl ?_
    refine RunL.sure (dj := 112) false rfl (by simp [tSt]) ?_
    iterate 5 refine RunL.val (Val.pure rfl) rfl rfl rfl ?_
    refine RunL.sure (dj := 117) false rfl (by simp [tS]) ?_
    iterate 5 refine RunL.val (Val.pure rfl) rfl rfl rfl ?_
    refine RunL.sure (dj := 122) false rfl (by simp [tSt]) ?_
    iterate 5 refine RunL.val (Val.pure rfl) rfl rfl rfl ?_
    refine RunL.sure (dj := 127) false rfl (by simp [tSt]) ?_
    refine RunL.val (Val.load_agg rfl (.tail _ (.tail _ (.tail _ (.tail _ (.tail _ (.head _)))))) ty_23 rfl) rfl rfl rfl ?_
    refine RunL.val (Val.load_agg rfl (.tail _ (.tail _ (.head _))) ty_23 rfl) rfl rfl rfl ?_
    refine RunL.val (Val.neq_pair rfl rfl pair_23) rfl rfl rfl ?_
    refine RunL.val (Val.pure rfl) rfl rfl rfl ?_
    refine RunL.val (Val.pure rfl) rfl rfl rfl ?_
    refine RunL.sure (dj := 132) false rfl (by simp [tH]) ?_
    refine RunL.val (Val.load_agg rfl (.tail _ (.tail _ (.tail _ (.tail _ (.head _))))) ty_23 rfl) rfl rfl rfl ?_
    refine RunL.val (Val.load_agg rfl (.tail _ (.tail _ (.tail _ (.head _)))) ty_23 rfl) rfl rfl rfl ?_
    refine RunL.val (Val.neq_pair rfl rfl pair_23) rfl rfl rfl ?_
    refine RunL.val (Val.pure rfl) rfl rfl rfl ?_
    refine RunL.val (Val.pure rfl) rfl rfl rfl ?_
    refine RunL.sure (dj := 137) false rfl (by simp [tH]) ?_
    refine RunL.val (Val.fieldAddr rfl fld_23_0) rfl rfl rfl ?_
    refine RunL.val (Val.load_one rfl (.tail _ (.tail _ (.tail _ (.tail _ (.tail _ (.tail _ (.tail _ (.head _)))))))) ty_3 rfl) rfl rfl rfl ?_
    refine RunL.val (Val.fieldAddr rfl fld_23_1) rfl rfl rfl ?_
    refine RunL.val (Val.load_one rfl (.tail _ (.tail _ (.tail _ (.tail _ (.tail _ (.tail _ (.head _))))))) ty_3 rfl) rfl rfl rfl ?_
    refine RunL.val (Val.neg rfl (IntWalk.i64_in _ (by simp only [tM]; omega))) rfl rfl rfl ?_
    iterate 3 refine RunL.val (Val.pure rfl) rfl rfl rfl ?_
    refine RunL.sure (dj := 145) false rfl (by simp [tM]) ?_
    refine RunL.val (Val.fieldAddr rfl fld_23_1) rfl rfl rfl ?_
    refine RunL.val (Val.load_one rfl (.tail _ (.tail _ (.tail _ (.tail _ (.tail _ (.tail _ (.tail _ (.head _)))))))) ty_3 rfl) rfl rfl rfl ?_
    refine RunL.val (Val.fieldAddr rfl fld_23_0) rfl rfl rfl ?_
    refine RunL.val (Val.load_one rfl (.tail _ (.tail _ (.tail _ (.tail _ (.tail _ (.tail _ (.head _))))))) ty_3 rfl) rfl rfl rfl ?_
    refine RunL.val (Val.neg rfl (IntWalk.i64_in _ (by simp only [tM]; omega))) rfl rfl rfl ?_
    iterate 3 refine RunL.val (Val.pure rfl) rfl rfl rfl ?_
    refine RunL.sure (dj := 153) false rfl (by simp [tM]) ?_
    refine RunL.val (Val.fieldAddr rfl fld_23_0) rfl rfl rfl ?_
    refine RunL.val (Val.load_one rfl (.tail _ (.head _)) ty_3 rfl) rfl rfl rfl ?_
    refine RunL.val (Val.fieldAddr rfl fld_23_1) rfl rfl rfl ?_
    refine RunL.val (Val.load_one rfl (.head _) ty_3 rfl) rfl rfl rfl ?_
    refine RunL.val (Val.neg rfl (IntWalk.i64_in _ (by simp only [tS]; omega))) rfl rfl rfl ?_
    iterate 3 refine RunL.val (Val.pure rfl) rfl rfl rfl ?_
    refine RunL.sure (dj := 161) false rfl (by simp [tS]) ?_
    refine RunL.val (Val.fieldAddr rfl fld_23_1) rfl rfl rfl ?_
    refine RunL.val (Val.load_one rfl (.tail _ (.head _)) ty_3 rfl) rfl rfl rfl ?_
    refine RunL.val (Val.fieldAddr rfl fld_23_0) rfl rfl rfl ?_
    refine RunL.val (Val.load_one rfl (.head _) ty_3 rfl) rfl rfl rfl ?_
    refine RunL.val (Val.neg rfl (IntWalk.i64_in _ (by simp only [tS]; omega))) rfl rfl rfl ?_
    refine RunL.val (Val.pure rfl) rfl rfl rfl ?_
    refine RunL.val (Val.pure rfl) rfl rfl rfl ?_
    refine RunL.nil ?_
    refine RunE.next ?_
    refine RunC.cond rfl (fun h => absurd h (by simp [tS])) ?_
    intro c1
    clear c1
    refine RunC.skip ?_
    refine RunE.next ?_
    refine RunC.seq ?_
    refine RunC.seq ?_
    have w1 : ownV z48 (0 + g.f.things.length) = .slice (ownQ z48) g.f.things.length (ownC z48) := by rw [ownV_slice hz48, Nat.zero_add]
    simp only [w1]
    refine RunC.region ?_
    refine RunL.val (Val.pure rfl) rfl rfl rfl ?_
    refine RunL.val (Val.len_sl rfl sl_24) rfl rfl rfl ?_
    refine RunL.val (Val.pure rfl) rfl rfl rfl ?_
    refine RunL.nil ?_
    refine RunE.next ?_
    refine RunC.block ?_
    refine RunC.loopK (g.f.things.length) (fun k q => (171, .int .i64 (k : Int)) :: q) (fun _ => _) (fun _ => []) (fun _ => True) trivial rfl (Sub.consE (t := 171) rfl rfl (Sub.cons (t := 1) rfl (Sub.cons (t := 2) rfl (Sub.cons (t := 6) rfl (Sub.cons (t := 7) rfl (Sub.cons (t := 9) rfl (Sub.cons (t := 170) rfl (Sub.nil _)))))))) (.cons (.there (.there (.there (.there (.there (.there (.there (.there (.there (.there .here)))))))))) rfl (.cons (.there (.there (.there (.there (.there (.there (.there (.there .here)))))))) rfl (Pick.skip (Pick.skip (Pick.skip (Pick.skip (Pick.skip (Pick.skip (Pick.skip (Pick.skip (Pick.skip (Pick.refl _)))))))))))) ?_
    intro k kN kI
    clear kI
    refine RunC.seq ?_
    refine RunC.region ?_
    refine RunL.val (Val.pure rfl) rfl rfl rfl ?_
    refine RunL.nil ?_
    refine RunE.next ?_
    refine RunC.seq ?_
    refine RunC.cond rfl ?_ ?_
    · intro c2
      have c2' := c2; clear c2
      try simp only [decide_eq_true_eq, decide_eq_false_iff_not, Bool.not_eq_true', Bool.not_eq_false', Bool.and_eq_true, Bool.or_eq_true, Bool.and_eq_false_iff, Bool.or_eq_false_iff, Int.not_le, Int.not_lt] at c2'
      have hk : k < g.f.things.length := by omega
      obtain ⟨t, ht⟩ : ∃ t, g.f.things[k] = t := ⟨_, rfl⟩
      refine RunC.skip ?_
      refine RunE.next ?_
      refine RunC.seq ?_
      refine RunC.block ?_
      refine RunC.seq ?_
      refine RunC.region ?_
      refine RunL.val (Val.pure rfl) rfl rfl rfl ?_
      refine RunL.val (Val.pure rfl) rfl rfl rfl ?_
      refine RunL.nil ?_
      refine RunE.next ?_
      refine RunC.seq ?_
      obtain ⟨bz48, cz48, rz48, rfl, lz481, lz482, lz483⟩ := hz48.has (by omega)
      refine RunC.draw 10 fol_ (.cons .here rfl (.cons .here rfl (.cons .here rfl .nil))) ?_
      refine RunA.val (i := 0) rfl (by kernel_rfl) (by kernel_rfl) (Val.pure rfl) rfl rfl rfl (fun _ _ _ h => h) (.cons .here rfl (.cons .here rfl (.cons .here rfl .nil))) rfl ?_
      refine RunA.val (i := 1) rfl (by kernel_rfl) (by kernel_rfl) (Val.pure rfl) rfl rfl rfl (fun _ _ _ h => h) (.cons .here rfl (.cons .here rfl (.cons .here rfl .nil))) rfl ?_
      refine RunA.val (i := 2) rfl (by kernel_rfl) (by kernel_rfl) (Val.indexAddr_slp rfl rfl sl_24 (by omega) (by omega) rfl) rfl rfl rfl (fun _ _ _ h => h) (.cons .here rfl (.cons .here rfl (.cons .here rfl .nil))) rfl ?_
      refine RunA.val (i := 3) rfl (by kernel_rfl) (by kernel_rfl) (Val.load_gen rfl (fun w hm => (Sl.rowsR (xs := g.f.things.map Th.cells) (t := rz48) (hm.at (.tail _ (.tail _ (.head _)))) th_rows).loadX (by decide) (Mem.refl w) (by simp) ty_54 hk ht)) rfl rfl rfl (fun _ _ _ h => h) (.cons .here rfl (.cons .here rfl (.cons .here rfl .nil))) rfl ?_
      refine RunA.val (i := 4) rfl (by kernel_rfl) (by kernel_rfl) (Val.fieldAddr rfl fld_28_0) rfl rfl rfl (fun _ _ _ h => h) (.cons .here rfl (.cons .here rfl (.cons .here rfl .nil))) rfl ?_
      refine RunA.val (i := 5) rfl (by kernel_rfl) (by kernel_rfl) (Val.fieldAddr rfl fld_26_5) rfl rfl rfl (fun _ _ _ h => h) (.cons .here rfl (.cons .here rfl (.cons .here rfl .nil))) rfl ?_
      refine RunA.val (i := 6) rfl (by kernel_rfl) (by kernel_rfl) (Val.load_one rfl (.head _) ty_24 rfl) rfl rfl rfl (fun _ _ _ h => h) (.cons .here rfl (.cons .here rfl (.cons .here rfl .nil))) rfl ?_
      refine RunA.val (i := 7) rfl (by kernel_rfl) (by kernel_rfl) (Val.pure rfl) rfl rfl rfl (fun _ _ _ h => h) (.cons .here rfl (.cons .here rfl (.cons .here rfl .nil))) rfl ?_
      refine RunA.val (i := 8) rfl (by kernel_rfl) (by kernel_rfl) (Val.indexAddr_slp rfl rfl sl_24 (by omega) (by omega) (hS.s1.ptrM hk)) rfl rfl rfl (fun _ _ _ h => h) (.cons .here rfl (.cons .here rfl (.cons .here rfl .nil))) rfl ?_
      refine RunA.val (i := 9) rfl (by kernel_rfl) (by kernel_rfl) (Val.load_gen rfl (fun w hm => hS.s1.loadX (by decide) hm (by simp) ty_54 hk ht)) rfl rfl rfl (fun _ _ _ h => h) (.cons .here rfl (.cons .here rfl (.cons .here rfl .nil))) rfl ?_
      refine RunA.toB (by kernel_rfl) ?_
      refine RunB.one (i := 10) (by kernel_rfl) ?_
      refine RunI.val rfl (Val.neq_flat rfl rfl eqB_54 (kl_54 _ _ _ _ _ _ _ _ _ _ _ _ _ _ _ _ _ _ )) rfl rfl rfl (RunK.toB ?_)
      refine RunB.done (by kernel_rfl) ?_
      refine RunE.next ?_
      refine RunC.cond rfl (fun h => absurd h (by simp)) ?_
      intro c3
      clear c3
      refine RunC.skip ?_
      refine RunE.block_normal ?_
      refine RunE.next ?_
      refine RunC.region ?_
      refine RunL.val (Val.add rfl rfl (IntWalk.i64_in _ ⟨by omega, by omega⟩)) rfl rfl rfl ?_
      refine RunL.val (Val.pure rfl) rfl rfl rfl ?_
      refine RunL.nil ?_
      exact RunE.round (by omega) trivial rfl (Sub.consE (t := 171) rfl rfl (Sub.cons (t := 1) rfl (Sub.cons (t := 2) rfl (Sub.cons (t := 6) rfl (Sub.cons (t := 7) rfl (Sub.cons (t := 9) rfl (Sub.cons (t := 170) rfl (Sub.nil _)))))))) (.cons .here rfl (.cons .here rfl (.cons .here rfl .nil)))
    · intro c2
      have c2' := c2; clear c2
      try simp only [decide_eq_true_eq, decide_eq_false_iff_not, Bool.not_eq_true', Bool.not_eq_false', Bool.and_eq_true, Bool.or_eq_true, Bool.and_eq_false_iff, Bool.or_eq_false_iff, Int.not_le, Int.not_lt] at c2'
      obtain rfl : k = g.f.things.length := by omega
      refine RunC.exit ?_
      refine RunE.pass_exit ?_
      refine RunE.pass_exit ?_
      refine RunE.block_here ?_
      refine RunE.next ?_
      refine RunC.seq ?_
      refine RunC.region ?_
      refine RunL.val (Val.fieldAddr rfl fld_28_3) rfl rfl rfl ?_
      refine RunL.val (Val.load_one rfl (.head _) ty_3 rfl) rfl rfl rfl ?_
      refine RunL.val (Val.mul_wrap rfl rfl) rfl rfl rfl ?_
      refine RunL.val (Val.fieldAddr rfl fld_28_2) rfl rfl rfl ?_
      refine RunL.val (Val.load_one rfl (.head _) ty_3 rfl) rfl rfl rfl ?_
      refine RunL.val (Val.sub_wrap rfl rfl) rfl rfl rfl ?_
      obtain ⟨D, hD⟩ : ∃ D, IntKind.i64.wrap (IntKind.i64.wrap (2 * g.d2) - g.d1) = D := ⟨_, rfl⟩
      rw [hD]
      refine RunL.val (Val.fieldAddr rfl fld_28_3) rfl rfl rfl ?_
      refine RunL.sto (Sto.store rfl rfl (.there .here) ty_3 rfl rfl) rfl rfl ?_
      refine RunL.nil ?_
      refine RunE.next ?_
      refine RunC.seq ?_
      refine RunC.seq ?_
      refine RunC.region ?_
      iterate 3 refine RunL.val (Val.pure rfl) rfl rfl rfl ?_
      refine RunL.orPart (dj := 195) (dp := 199) 4 rfl (fun g195 => by
        have g195' := g195
        try simp only [decide_eq_true_eq, decide_eq_false_iff_not, Bool.not_eq_true', Bool.not_eq_false', Bool.and_eq_true, Bool.or_eq_true, Bool.and_eq_false_iff, Bool.or_eq_false_iff, Int.not_le, Int.not_lt] at g195'
        refine RunL.val (Val.fieldAddr rfl fld_28_3) rfl rfl rfl ?_
        refine RunL.val (Val.load_one rfl (.tail _ (.head _)) ty_3 rfl) rfl rfl rfl ?_
        refine RunL.val (Val.pure rfl) rfl rfl rfl ?_
        refine RunL.val (Val.pure rfl) rfl rfl rfl ?_
        exact RunL.segEnd (Sub.cons rfl (Sub.skip rfl (Sub.skip rfl (Sub.skip rfl (Sub.skip rfl (Sub.same rfl (by rw [g195]) (Sub.refl _))))))) (List.Sublist.refl _)
      ) (fun g195 => by
        have g195' := g195
        try simp only [decide_eq_true_eq, decide_eq_false_iff_not, Bool.not_eq_true', Bool.not_eq_false', Bool.and_eq_true, Bool.or_eq_true, Bool.and_eq_false_iff, Bool.or_eq_false_iff, Int.not_le, Int.not_lt] at g195'
        iterate 3 refine RunL.no rfl rfl rfl ?_
        refine RunL.val (Val.pure rfl) rfl rfl rfl ?_
        exact RunL.segEnd (Sub.cons rfl (Sub.skip rfl (Sub.skip rfl (Sub.skip rfl (Sub.skip rfl (Sub.same rfl (by rw [g195]) (Sub.refl _))))))) (List.Sublist.refl _)
      ) ?_
      refine RunL.nil ?_
      refine RunE.next ?_
      refine RunC.cond rfl ?_ ?_
      · intro c4
        have c4' := c4; clear c4
        try simp only [decide_eq_true_eq, decide_eq_false_iff_not, Bool.not_eq_true', Bool.not_eq_false', Bool.and_eq_true, Bool.or_eq_true, Bool.and_eq_false_iff, Bool.or_eq_false_iff, Int.not_le, Int.not_lt] at c4'
        refine RunC.seq ?_
        refine RunC.region ?_
        refine RunL.callP (isCall_func rfl ent_10) rfl rfl rfl (fun w hm => alive_calls w) ?_
        refine RunL.val (Val.pure rfl) rfl rfl rfl ?_
        refine RunL.nil ?_
        refine RunE.next ?_
        refine RunC.ret ?_
        refine RunE.pass_ret ?_
        exact RunE.retP (.r1 rfl (.tmp rfl)) (by first | rfl | simp)
      · intro c4
        have c4' := c4; clear c4
        try simp only [decide_eq_true_eq, decide_eq_false_iff_not, Bool.not_eq_true', Bool.not_eq_false', Bool.and_eq_true, Bool.or_eq_true, Bool.and_eq_false_iff, Bool.or_eq_false_iff, Int.not_le, Int.not_lt] at c4'
        have hz0 : (gMoved g n).2 = 0 := by simpa using c4'.1
        have hD65 : D ≤ 65536 := by simpa using c4'.2
        have hod : 0 ≤ g.d1 ∧ g.d1 < g.d2 ∧ g.d2 ≤ 65536 := by
          unfold gMoved at hz0
          rw [ask_see] at hz0
          split at hz0
          · rename_i h; exact (openG_ok (seeG_ok h).1).1
          · exact absurd hz0 (by assumption)
        have hDe : D = 2 * g.d2 - g.d1 := by
          rw [← hD, IntWalk.i64_in (2 * g.d2) ⟨by omega, by omega⟩, IntWalk.i64_in _ ⟨by omega, by omega⟩]
        obtain ⟨r1, r2, r3, r4⟩ := rate_long hz0 hDe hD65
        refine RunC.skip ?_
        refine RunE.next ?_
        refine RunC.seq ?_
        refine RunC.region ?_
        refine RunL.val (Val.load_agg rfl (.head _) ty_28 rfl) rfl rfl rfl ?_
        refine RunL.val (Val.pure rfl) rfl rfl rfl ?_
        refine RunL.callP (isCall_func rfl ent_17) rfl rfl rfl (fun w hm => yRate_calls g a n w (hG.mono hm)) ?_
        iterate 3 refine RunL.val (Val.pure rfl) rfl rfl rfl ?_
        refine RunL.new (New.alloc zero_23) rfl rfl rfl (fun b29 => ?_)
        refine RunL.sto (Sto.store rfl rfl .here ty_23 rfl rfl) rfl rfl ?_
        refine RunL.val (Val.pure rfl) rfl rfl rfl ?_
        refine RunL.nil ?_
        refine RunE.next ?_
        refine RunC.seq ?_
        refine RunC.region ?_
        refine RunL.val (Val.load_agg rfl (.tail _ (.tail _ (.head _))) ty_28 rfl) rfl rfl rfl ?_
        refine RunL.val (Val.pure rfl) rfl rfl rfl ?_
        refine RunL.callP (isCall_func rfl ent_17) rfl rfl rfl (fun w hm => yRate_calls (longG g D) a n w (hG.mono hm).long) ?_
        iterate 3 refine RunL.val (Val.pure rfl) rfl rfl rfl ?_
        refine RunL.new (New.alloc zero_23) rfl rfl rfl (fun b31 => ?_)
        refine RunL.sto (Sto.store rfl rfl .here ty_23 rfl rfl) rfl rfl ?_
        refine RunL.val (Val.pure rfl) rfl rfl rfl ?_
        refine RunL.nil ?_
        refine RunE.next ?_
        refine RunC.seq ?_
        refine RunC.draw 20 fol_ (.cons .here rfl (.cons .here rfl (.cons .here rfl (.cons .here rfl .nil)))) ?_
        refine RunA.val (i := 0) rfl (by kernel_rfl) (by kernel_rfl) (Val.pure rfl) rfl rfl rfl (fun _ _ _ h => h) (.cons .here rfl (.cons .here rfl (.cons .here rfl (.cons .here rfl .nil)))) rfl ?_
        refine RunA.val (i := 1) rfl (by kernel_rfl) (by kernel_rfl) (Val.pure rfl) rfl rfl rfl (fun _ _ _ h => h) (.cons .here rfl (.cons .here rfl (.cons .here rfl (.cons .here rfl .nil)))) rfl ?_
        refine RunA.val (i := 2) rfl (by kernel_rfl) (by kernel_rfl) (Val.pure rfl) rfl rfl rfl (fun _ _ _ h => h) (.cons .here rfl (.cons .here rfl (.cons .here rfl (.cons .here rfl .nil)))) rfl ?_
        refine RunA.sure (dj := 215) true rfl (by simp [r1]) ?_
        refine RunA.val (i := 3) rfl (by kernel_rfl) (by kernel_rfl) (Val.pure rfl) rfl rfl rfl (fun _ _ _ h => h) (.cons .here rfl (.cons .here rfl (.cons .here rfl (.cons .here rfl .nil)))) rfl ?_
        refine RunA.val (i := 4) rfl (by kernel_rfl) (by kernel_rfl) (Val.pure rfl) rfl rfl rfl (fun _ _ _ h => h) (.cons .here rfl (.cons .here rfl (.cons .here rfl (.cons .here rfl .nil)))) rfl ?_
        refine RunA.val (i := 5) rfl (by kernel_rfl) (by kernel_rfl) (Val.pure rfl) rfl rfl rfl (fun _ _ _ h => h) (.cons .here rfl (.cons .here rfl (.cons .here rfl (.cons .here rfl .nil)))) rfl ?_
        refine RunA.val (i := 6) rfl (by kernel_rfl) (by kernel_rfl) (Val.pure rfl) rfl rfl rfl (fun _ _ _ h => h) (.cons .here rfl (.cons .here rfl (.cons .here rfl (.cons .here rfl .nil)))) rfl ?_
        refine RunA.sure (dj := 219) true rfl (by simp [r2]) ?_
        refine RunA.val (i := 7) rfl (by kernel_rfl) (by kernel_rfl) (Val.fieldAddr rfl fld_23_0) rfl rfl rfl (fun _ _ _ h => h) (.cons .here rfl (.cons .here rfl (.cons .here rfl (.cons .here rfl .nil)))) rfl ?_
        refine RunA.val (i := 8) rfl (by kernel_rfl) (by kernel_rfl) (Val.load_one rfl (.head _) ty_3 rfl) rfl rfl rfl (fun _ _ _ h => h) (.cons .here rfl (.cons .here rfl (.cons .here rfl (.cons .here rfl .nil)))) rfl ?_
        refine RunA.val (i := 9) rfl (by kernel_rfl) (by kernel_rfl) (Val.fieldAddr rfl fld_23_0) rfl rfl rfl (fun _ _ _ h => h) (.cons .here rfl (.cons .here rfl (.cons .here rfl (.cons .here rfl .nil)))) rfl ?_
        refine RunA.val (i := 10) rfl (by kernel_rfl) (by kernel_rfl) (Val.load_one rfl (.tail _ (.head _)) ty_3 rfl) rfl rfl rfl (fun _ _ _ h => h) (.cons .here rfl (.cons .here rfl (.cons .here rfl (.cons .here rfl .nil)))) rfl ?_
        refine RunA.one (i := 11) (by kernel_rfl) (by kernel_rfl) ?_
        refine RunI.callP rfl (isCall_func rfl ent_29) rfl rfl rfl (fun w hm => ldown_calls _ 2 (by decide) (by omega) w) (RunK.toA (.cons .here rfl (.cons .here rfl (.cons .here rfl (.cons .here rfl .nil)))) (.cons .here rfl (.cons .here rfl (.cons .here rfl (.cons .here rfl .nil)))) rfl ?_)
        refine RunA.val (i := 12) rfl (by kernel_rfl) (by kernel_rfl) (Val.pure rfl) rfl rfl rfl (fun _ _ _ h => h) (.cons .here rfl (.cons .here rfl (.cons .here rfl (.cons .here rfl .nil)))) rfl ?_
        refine RunA.val (i := 13) rfl (by kernel_rfl) (by kernel_rfl) (Val.pure rfl) rfl rfl rfl (fun _ _ _ h => h) (.cons .here rfl (.cons .here rfl (.cons .here rfl (.cons .here rfl .nil)))) rfl ?_
        refine RunA.val (i := 14) rfl (by kernel_rfl) (by kernel_rfl) (Val.pure rfl) rfl rfl rfl (fun _ _ _ h => h) (.cons .here rfl (.cons .here rfl (.cons .here rfl (.cons .here rfl .nil)))) rfl ?_
        refine RunA.sure (dj := 227) true rfl (by simp [r3]) ?_
        refine RunA.val (i := 15) rfl (by kernel_rfl) (by kernel_rfl) (Val.fieldAddr rfl fld_23_1) rfl rfl rfl (fun _ _ _ h => h) (.cons .here rfl (.cons .here rfl (.cons .here rfl (.cons .here rfl .nil)))) rfl ?_
        refine RunA.val (i := 16) rfl (by kernel_rfl) (by kernel_rfl) (Val.load_one rfl (.head _) ty_3 rfl) rfl rfl rfl (fun _ _ _ h => h) (.cons .here rfl (.cons .here rfl (.cons .here rfl (.cons .here rfl .nil)))) rfl ?_
        refine RunA.val (i := 17) rfl (by kernel_rfl) (by kernel_rfl) (Val.fieldAddr rfl fld_23_1) rfl rfl rfl (fun _ _ _ h => h) (.cons .here rfl (.cons .here rfl (.cons .here rfl (.cons .here rfl .nil)))) rfl ?_
        refine RunA.val (i := 18) rfl (by kernel_rfl) (by kernel_rfl) (Val.load_one rfl (.tail _ (.head _)) ty_3 rfl) rfl rfl rfl (fun _ _ _ h => h) (.cons .here rfl (.cons .here rfl (.cons .here rfl (.cons .here rfl .nil)))) rfl ?_
        refine RunA.one (i := 19) (by kernel_rfl) (by kernel_rfl) ?_
        refine RunI.callP rfl (isCall_func rfl ent_32) rfl rfl rfl (fun w hm => lup_calls _ 2 (by decide) (by omega) w) (RunK.toA (.cons .here rfl (.cons .here rfl (.cons .here rfl (.cons .here rfl .nil)))) (.cons .here rfl (.cons .here rfl (.cons .here rfl (.cons .here rfl .nil)))) rfl ?_)
        refine RunA.toB (by kernel_rfl) ?_
        refine RunB.one (i := 20) (by kernel_rfl) ?_
        refine RunI.val rfl (Val.pure rfl) rfl rfl rfl (RunK.toB ?_)
        refine RunB.one (i := 21) (by kernel_rfl) ?_
        refine RunI.val rfl (Val.pure rfl) rfl rfl rfl (RunK.toB ?_)
        refine RunB.one (i := 22) (by kernel_rfl) ?_
        refine RunI.val rfl (Val.pure rfl) rfl rfl rfl (RunK.toB ?_)
        refine RunB.sure (dj := 235) true rfl (by simp [r4]) ?_
        refine RunB.one (i := 23) (by kernel_rfl) ?_
        refine RunI.callP rfl (isCall_func rfl ent_10) rfl rfl rfl (fun w hm => alive_calls w) (RunK.toB ?_)
        refine RunB.one (i := 24) (by kernel_rfl) ?_
        refine RunI.val rfl (Val.pure rfl) rfl rfl rfl (RunK.toB ?_)
        refine RunB.one (i := 25) (by kernel_rfl) ?_
        refine RunI.val rfl (Val.pure rfl) rfl rfl rfl (RunK.toB ?_)
        refine RunB.done (by kernel_rfl) ?_
        refine RunE.next ?_
        refine RunC.ret ?_
        exact RunE.retP (.r1 rfl (.tmp rfl)) (by first | rfl | simp)
end Go.Proofs.Ytjijeeadmhpfcaa
