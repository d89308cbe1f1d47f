/- Layer 1, plain facts for the laws without the document's answer. -/
import Derived.Test.YthppnhjggdebbaaFew
set_option linter.unusedSimpArgs false
set_option linter.unusedVariables false
namespace Go.Pw1
open Go Go.Eng
theorem ok_isPair {p : Pr} (h : p.Ok) : isPair p = true := by
  obtain ⟨f1, f2, f3, b1, b2, b3, t1, t2, n1, n2, n3, hl, ht⟩ := h
  simp only [isPair, isSpan, within, Bool.and_eq_true, decide_eq_true_eq, Bool.not_eq_true', List.any_eq_false]
  refine ⟨⟨⟨⟨⟨⟨⟨⟨f1, f2⟩, f3⟩, ⟨b1, b2⟩, b3⟩, t1, t2⟩, n1, by omega⟩, n2, n3⟩, by omega⟩, fun t hm => ?_⟩
  obtain ⟨⟨⟨h1, h2, h3⟩, ⟨h4, h5, h6⟩, ⟨h7, h8, h9⟩, ⟨h10, h11, h12⟩⟩, h0⟩ := ht t hm
  simp only [bad, isPlace, isSpan, within, Bool.or_eq_true, Bool.not_eq_true', Bool.and_eq_true, decide_eq_true_eq, Bool.and_eq_false_iff, decide_eq_false_iff_not, not_or, Bool.not_eq_false', not_and]
  omega
theorem isPair_iff {p : Pr} : isPair p = true ↔ p.Ok := ⟨isPair_ok, ok_isPair⟩
theorem all_in {p : Pr} {x : Int} : ∀ (l : List Th) (w : Int × Int), InB x (allL p w l) ↔ InB x w ∧ ∀ t ∈ l, t.far ≠ 0 → InB x (powersR p t)
  | [], w => by simp [allL]
  | t :: l, w => by
    simp only [allL]
    split
    · rename_i h0
      rw [all_in l w]
      exact ⟨fun ⟨h1, h2⟩ => ⟨h1, fun u hu hf => by rcases List.mem_cons.1 hu with rfl | hu; exact absurd h0 hf; exact h2 u hu hf⟩, fun ⟨h1, h2⟩ => ⟨h1, fun u hu => h2 u (List.mem_cons_of_mem _ hu)⟩⟩
    · rename_i h0
      rw [all_in l _, inB_nar]
      exact ⟨fun ⟨⟨h1, h2⟩, h3⟩ => ⟨h1, fun u hu hf => by rcases List.mem_cons.1 hu with rfl | hu; exact h2; exact h3 u hu hf⟩, fun ⟨h1, h2⟩ => ⟨⟨h1, h2 t (by simp) h0⟩, fun u hu => h2 u (List.mem_cons_of_mem _ hu)⟩⟩
theorem allS_in {p : Pr} {x : Int} : InB x (allS p) ↔ InB x (powers0 p) ∧ ∀ t ∈ p.things, t.far ≠ 0 → InB x (powersR p t) := all_in _ _
theorem thingAt_mem {p : Pr} {n : Int} (h : thingR p n = true) : thingAt p n ∈ p.things := by
  obtain ⟨k, rfl, hk⟩ := thingR_in h
  rw [thingAt_eq hk rfl]
  exact List.getElem_mem hk
/-- What is known of a thing of a valid pair that stands still. -/
structure Stl (p : Pr) (t : Th) (a1 a2 z1 z2 : Int) : Prop where
  s0 : 0 ≤ a1
  s1 : a1 ≤ a2
  s2 : a2 ≤ 2000
  e1 : powersR p t = (a1 * z1, (a2 + 1) * z2 - 1)
  le1 : 2000 ≤ z1
  le2 : z1 ≤ z2
  mark : t.far ≠ 0 → z1 = t.far ∧ z2 = t.far
  other : t.far = 0 → z1 = p.near ∧ z2 = p.far
theorem stl_of {p : Pr} (hp : p.Ok) {t : Th} (ht : t ∈ p.things) {x : Int} (hx : 1 ≤ x) (h : InB x (powersR p t)) : ∃ z1 z2, Stl p t (shownS t).1 (shownS t).2 z1 z2 ∧ isB (shownS t) = true ∧ levelS p t = true := by
  have hn : isB (shownS t) = true ∧ levelS p t = true := by
    cases hb : isB (shownS t) && levelS p t with
    | true => rw [Bool.and_eq_true] at hb; exact hb
    | false =>
      unfold powersR at h
      rw [if_neg (by rw [hb]; simp)] at h
      simp only [InB] at h
      omega
  have hb := shown_bd hn.1
  have hth := hp.ths t ht
  have n1 := hp.n1
  have n2 := hp.n2
  have he : powersR p t = powersS p t (shownS t) := by unfold powersR; rw [if_pos (by rw [hn.1, hn.2]; rfl)]
  by_cases h0 : t.far = 0
  · refine ⟨p.near, p.far, ⟨hb.1, hb.2.1, hb.2.2, ?_, n1, n2, fun h => absurd h0 h, fun _ => ⟨rfl, rfl⟩⟩, hn⟩
    rw [he]; unfold powersS; rw [if_pos h0]
  · refine ⟨t.far, t.far, ⟨hb.1, hb.2.1, hb.2.2, ?_, by rcases hth.2 with h | h <;> omega, Int.le_refl _, fun _ => ⟨rfl, rfl⟩, fun h => absurd h h0⟩, hn⟩
    rw [he]; unfold powersS; rw [if_neg h0]
/-- The distances of a thing that stands still. -/
def farS (p : Pr) (t : Th) (w : Int × Int) : Int × Int :=
  if t.far = 0 then (max p.near (w.1 / ((shownS t).2 + 1) + 1), if 0 < (shownS t).1 then min p.far (w.2 / (shownS t).1) else p.far) else (t.far, t.far)
theorem dist_ok {p : Pr} {n : Int} (h : (distX p n).2 = 0) : p.Ok ∧ thingR p n = true ∧ isB (allS p) = true ∧ isB (nar (allS p) (powersR p (thingAt p n))) = true ∧ (distX p n).1 = farS p (thingAt p n) (allS p) := by
  rw [dist_same] at h ⊢
  unfold distR openR at h ⊢
  cases hp : isPair p with
  | false => simp [hp] at h
  | true =>
    cases ht : thingR p n with
    | false => simp [hp, ht] at h
    | true =>
      cases ha : isB (allS p) with
      | false => simp [hp, ht, ha] at h
      | true =>
        simp only [hp, ht, ha, if_true, ne_eq, not_true_eq_false, if_false] at h ⊢
        cases hb : isB (nar (allS p) (powersR p (thingAt p n))) with
        | false => simp [hb] at h
        | true =>
          refine ⟨isPair_ok hp, by first | rfl | trivial, by first | rfl | trivial, by first | rfl | trivial, ?_⟩
          simp only [if_true, farS]
          split <;> rfl
theorem isB_nar {a b : Int × Int} (h : isB (nar a b) = true) : ∃ x, InB x a ∧ InB x b := ⟨_, inB_nar.1 (isB_iff.1 h)⟩
theorem shown_lt {a b : Th} (h : (shift b).2 < (shift a).1) (hb : 0 ≤ (shownS b).2) : (shownS b).2 < (shownS a).1 := by
  simp only [shownS, nar] at *
  omega
theorem le_div {a b c : Int} (hc : 0 < c) : a ≤ b / c ↔ a * c ≤ b := Int.le_ediv_iff_mul_le hc
theorem div_lt {a b c : Int} (hc : 0 < c) : b / c < a ↔ b < a * c := Int.ediv_lt_iff_lt_mul hc
theorem mul_mono {a b c : Int} (hc : 0 ≤ c) (h : a ≤ b) : a * c ≤ b * c := Int.mul_le_mul_of_nonneg_right h hc
theorem nearer_far {p : Pr} (hp : p.Ok) {a b : Th} (ha : a ∈ p.things) (hb : b ∈ p.things) (hw : isB (allS p) = true) (ia : isB (nar (allS p) (powersR p a)) = true) (ib : isB (nar (allS p) (powersR p b)) = true)
    (h : (shift b).2 < (shift a).1) : (farS p a (allS p)).1 ≤ (farS p b (allS p)).1 ∧ (farS p a (allS p)).2 ≤ (farS p b (allS p)).2 := by
  obtain ⟨w1, w2⟩ := allS_bd hp
  have wi := isB_iff.1 hw
  obtain ⟨x, xa, xa'⟩ := isB_nar ia
  obtain ⟨y, yb, yb'⟩ := isB_nar ib
  obtain ⟨za1, za2, sa, -⟩ := stl_of hp ha (by simp only [InB] at xa; omega) xa'
  obtain ⟨zb1, zb2, sb, -⟩ := stl_of hp hb (by simp only [InB] at yb; omega) yb'
  have hlt := shown_lt h (by have := sb.s0; have := sb.s1; omega)
  have la : a.far ≠ 0 → InB (allS p).1 (powersR p a) ∧ InB (allS p).2 (powersR p a) := fun hf => ⟨(allS_in.1 wi).2 a ha hf, (allS_in.1 (show InB (allS p).2 (allS p) from ⟨by have := wi.2; omega, Int.le_refl _⟩)).2 a ha hf⟩
  have lb : b.far ≠ 0 → InB (allS p).1 (powersR p b) ∧ InB (allS p).2 (powersR p b) := fun hf => ⟨(allS_in.1 wi).2 b hb hf, (allS_in.1 (show InB (allS p).2 (allS p) from ⟨by have := wi.2; omega, Int.le_refl _⟩)).2 b hb hf⟩
  have wle := wi.2
  rw [sa.e1] at la xa'
  rw [sb.e1] at lb yb'
  simp only [InB] at la lb xa xa' yb yb'
  unfold farS
  generalize (allS p).1 = u at *
  generalize (allS p).2 = v at *
  obtain ⟨a0, a1, a2, -, a3, a4, ma, oa⟩ := sa
  obtain ⟨b0, b1, b2, -, b3, b4, mb, ob⟩ := sb
  have n1 := hp.n1
  have n2 := hp.n2
  generalize (shownS a).1 = p1 at *
  generalize (shownS a).2 = p2 at *
  generalize (shownS b).1 = q1 at *
  generalize (shownS b).2 = q2 at *
  by_cases fa : a.far = 0
  · by_cases fb : b.far = 0
    · simp only [fa, fb, if_true]
      have h1 : u / (p2 + 1) ≤ u / (q2 + 1) := by
        rw [le_div (by omega)]
        refine Int.le_trans (Int.mul_le_mul_of_nonneg_left (show q2 + 1 ≤ p2 + 1 by omega) (Int.ediv_nonneg (by omega) (by omega))) ?_
        exact Int.ediv_mul_le _ (by omega)
      refine ⟨by omega, ?_⟩
      rw [if_pos (by omega)]
      split
      · have h2 : v / p1 ≤ v / q1 := by
          rw [le_div (by omega)]
          refine Int.le_trans (Int.mul_le_mul_of_nonneg_left (show q1 ≤ p1 by omega) (Int.ediv_nonneg (by omega) (by omega))) ?_
          exact Int.ediv_mul_le _ (by omega)
        omega
      · omega
    · simp only [fa, fb, if_true, if_false]
      obtain ⟨rfl, rfl⟩ := mb fb
      obtain ⟨rfl, rfl⟩ := oa fa
      have hl := lb fb
      have hbf := (hp.ths b hb).2
      have m1 := mul_mono (c := b.far) (by omega) (show q2 + 1 ≤ p1 by omega)
      have m2 := mul_mono (c := b.far) (by omega) (show q2 + 1 ≤ p2 + 1 by omega)
      have h1 : u / (p2 + 1) < b.far := by rw [div_lt (by omega), Int.mul_comm]; omega
      have h2 : v / p1 < b.far := by rw [div_lt (by omega), Int.mul_comm]; omega
      rw [if_pos (by omega)]
      omega
  · by_cases fb : b.far = 0
    · simp only [fa, fb, if_true, if_false]
      obtain ⟨rfl, rfl⟩ := ma fa
      have hl := la fa
      have haf := (hp.ths a ha).2
      have m1 := mul_mono (c := a.far) (by omega) (show q2 + 1 ≤ p1 by omega)
      have m2 := mul_mono (c := a.far) (by omega) (show q1 ≤ p1 by omega)
      have h1 : a.far ≤ u / (q2 + 1) := by rw [le_div (by omega), Int.mul_comm]; omega
      refine ⟨by omega, ?_⟩
      split
      · have h2 : a.far ≤ v / q1 := by rw [le_div (by omega), Int.mul_comm]; omega
        omega
      · omega
    · simp only [fa, fb, if_false]
      obtain ⟨rfl, rfl⟩ := ma fa
      obtain ⟨rfl, rfl⟩ := mb fb
      have hl := la fa
      have hl2 := lb fb
      have m1 := mul_mono (c := b.far) (by omega) (show q2 + 1 ≤ p1 by omega)
      have h3 : a.far ≤ b.far := by
        by_cases h4 : a.far ≤ b.far
        · exact h4
        · have m2 := Int.mul_le_mul_of_nonneg_left (c := p1) (show b.far ≤ a.far by omega) (by omega)
          omega
      exact ⟨h3, h3⟩
/-! ## Nearer -/
theorem nearer_swap (p : Pr) (a b : Int) : (nearerX p b a).2 = (nearerX p a b).2 := by
  rw [nearer_same, nearer_same]
  unfold nearerR
  cases isPair p <;> cases thingR p a <;> cases thingR p b <;> simp
theorem nearer_err {p : Pr} {a b : Int} (h : ¬ (nearerX p a b).2 = 0) : (nearerX p a b).1 = 0 ∧ ((isPair p = false ∧ (nearerX p a b).2 = 1) ∨ (isPair p = true ∧ (nearerX p a b).2 = 2)) := by
  rw [nearer_same] at h ⊢
  unfold nearerR at h ⊢
  cases hp : isPair p <;> cases ha : thingR p a <;> cases hb : thingR p b <;> simp_all
theorem nearer_ok {p : Pr} {a b : Int} (h : (nearerX p a b).2 = 0) : p.Ok ∧ thingR p a = true ∧ thingR p b = true ∧ (nearerX p a b).1 = nearerS (thingAt p a) (thingAt p b) := by
  rw [nearer_same] at h ⊢
  unfold nearerR at h ⊢
  cases hp : isPair p <;> cases ha : thingR p a <;> cases hb : thingR p b <;> simp_all
  exact isPair_ok hp
theorem shift_le {t : Th} (h : t.Ok) : (shift t).1 ≤ (shift t).2 := by
  obtain ⟨⟨h1, h2, h3⟩, ⟨h4, h5, h6⟩, ⟨h7, h8, h9⟩, ⟨h10, h11, h12⟩⟩ := h
  simp only [shift]
  omega
theorem nearerS_rng (a b : Th) : 0 ≤ nearerS a b ∧ nearerS a b ≤ 2 := by unfold nearerS; split <;> (try split) <;> omega
theorem nearerS_two {a b : Th} : nearerS a b = 2 ↔ (shift b).2 < (shift a).1 := by unfold nearerS; split <;> (try split) <;> omega
theorem nearerS_not {a b : Th} (ha : a.Ok) (hb : b.Ok) (h : nearerS a b = 2) : nearerS b a = 0 := by
  have h1 := nearerS_two.1 h
  have h2 := shift_le ha
  have h3 := shift_le hb
  unfold nearerS
  rw [if_neg (by omega), if_neg (by omega)]
theorem nearerS_trans {a b c : Th} (hb : b.Ok) (h : nearerS a b = 2) (h2 : nearerS b c = 2) : nearerS a c = 2 := by
  rw [nearerS_two] at *
  have := shift_le hb
  omega
theorem nearer_law {p : Pr} {a b : Int} (h : (nearerX p a b).2 = 0) (h2 : (nearerX p a b).1 = 2) (hi : (distX p a).2 = 0) (hj : (distX p b).2 = 0) : (distX p a).1.1 ≤ (distX p b).1.1 ∧ (distX p a).1.2 ≤ (distX p b).1.2 := by
  obtain ⟨hp, ta, tb, he⟩ := nearer_ok h
  obtain ⟨_, _, hw, ia, ea⟩ := dist_ok hi
  obtain ⟨_, _, _, ib, eb⟩ := dist_ok hj
  rw [ea, eb]
  exact nearer_far hp (thingAt_mem ta) (thingAt_mem tb) hw ia ib (nearerS_two.1 (he ▸ h2))
theorem nl1 (p : Pr) (x y : Int) : (!decide ((nearerX p x y).2 = (nearerX p y x).2) || !decide ((nearerX p x y).2 = 0) && (!decide ((nearerX p x y).1 = 0) || !decide ((nearerX p y x).1 = 0))) = false := by
  have h1 := nearer_swap p x y
  by_cases h : (nearerX p x y).2 = 0
  · simp [h1, h]
  · obtain ⟨e1, _⟩ := nearer_err h
    obtain ⟨e2, _⟩ := nearer_err (p := p) (a := y) (b := x) (by rw [h1]; exact h)
    simp [h1, e1, e2]
theorem nl3 {p : Pr} {x y : Int} (h : (nearerX p x y).2 = 0) : (decide ((nearerX p x y).1 < 0) || decide (2 < (nearerX p x y).1) || decide ((nearerX p x y).1 = 2) && !decide ((nearerX p y x).1 = 0) || decide ((nearerX p y x).1 = 2) && !decide ((nearerX p x y).1 = 0) || decide (x = y) && decide ((nearerX p x y).1 = 2)) = false := by
  obtain ⟨hp, tx, ty, e⟩ := nearer_ok h
  obtain ⟨_, _, _, e2⟩ := nearer_ok (p := p) (a := y) (b := x) (by rw [nearer_swap]; exact h)
  have ox := (hp.ths _ (thingAt_mem tx)).1
  have oy := (hp.ths _ (thingAt_mem ty)).1
  rw [e, e2]
  have r1 := nearerS_rng (thingAt p x) (thingAt p y)
  have n1 := nearerS_not ox oy
  have n2 := nearerS_not oy ox
  have n3 : x = y → nearerS (thingAt p x) (thingAt p y) ≠ 2 := by
    rintro rfl h2
    have := n1 h2
    omega
  simp only [Bool.or_eq_false_iff, Bool.and_eq_false_iff, decide_eq_false_iff_not, Bool.not_eq_false', decide_eq_true_eq]
  refine ⟨⟨⟨⟨by omega, by omega⟩, ?_⟩, ?_⟩, ?_⟩
  · by_cases h2 : nearerS (thingAt p x) (thingAt p y) = 2
    · exact .inr (n1 h2)
    · exact .inl h2
  · by_cases h2 : nearerS (thingAt p y) (thingAt p x) = 2
    · exact .inr (n2 h2)
    · exact .inl h2
  · by_cases h2 : x = y
    · exact .inr (n3 h2)
    · exact .inl h2
theorem nl4 {p : Pr} {x y z : Int} (h : (nearerX p x y).2 = 0) : (!decide ((nearerX p y z).2 = (nearerX p x z).2) || decide ((nearerX p y z).2 = 0) && decide ((nearerX p x y).1 = 2) && decide ((nearerX p y z).1 = 2) && !decide ((nearerX p x z).1 = 2)) = false := by
  obtain ⟨hp, tx, ty, e⟩ := nearer_ok h
  have hs : (nearerX p y z).2 = (nearerX p x z).2 := by
    rw [nearer_same, nearer_same]
    unfold nearerR
    rw [tx, ty]
    cases isPair p <;> cases thingR p z <;> simp
  by_cases h2 : (nearerX p y z).2 = 0
  · obtain ⟨_, _, tz, e2⟩ := nearer_ok h2
    obtain ⟨_, _, _, e3⟩ := nearer_ok (hs ▸ h2)
    have oy := (hp.ths _ (thingAt_mem ty)).1
    have tr := nearerS_trans (a := thingAt p x) (c := thingAt p z) oy
    rw [e, e2, e3]
    simp only [hs, decide_true, Bool.not_true, Bool.false_or, Bool.and_eq_false_iff, decide_eq_false_iff_not, Bool.not_eq_false', decide_eq_true_eq]
    by_cases h3 : nearerS (thingAt p x) (thingAt p y) = 2
    · by_cases h4 : nearerS (thingAt p y) (thingAt p z) = 2
      · exact .inr (tr h3 h4)
      · exact .inl (.inr h4)
    · exact .inl (.inl (.inr h3))
  · simp [hs ▸ h2, hs]
theorem nl5 {p : Pr} {x y : Int} (h : ¬ (nearerX p x y).2 = 0) : (decide ((nearerX p x y).2 = 1) == !isPair p) = true ∧ (decide ((nearerX p x y).2 = 1) || decide ((nearerX p x y).2 = 2)) = true := by
  obtain ⟨_, ⟨h1, h2⟩ | ⟨h1, h2⟩⟩ := nearer_err h <;> simp [h1, h2]
theorem nl6 {p : Pr} {x y : Int} (h : (nearerX p x y).2 = 0) : (!decide ((nearerX p x y).1 = 2) || !decide ((distX p x).2 = 0) || !decide ((distX p y).2 = 0) || decide ((distX p x).1.1 ≤ (distX p y).1.1) && decide ((distX p x).1.2 ≤ (distX p y).1.2)) = true := by
  simp only [Bool.or_eq_true, Bool.and_eq_true, Bool.not_eq_true', decide_eq_false_iff_not, decide_eq_true_eq]
  by_cases h1 : (nearerX p x y).1 = 2
  · by_cases h2 : (distX p x).2 = 0
    · by_cases h3 : (distX p y).2 = 0
      · exact .inr (nearer_law h h1 h2 h3)
      · exact .inl (.inr h3)
    · exact .inl (.inl (.inr h2))
  · exact .inl (.inl (.inl h1))
end Go.Pw1
