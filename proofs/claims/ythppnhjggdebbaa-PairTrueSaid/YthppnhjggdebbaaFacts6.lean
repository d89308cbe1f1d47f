/- Layer 1, plain facts for the law on what is narrower. -/
import Derived.Test.YthppnhjggdebbaaFacts5
set_option linter.unusedSimpArgs false
set_option linter.unusedVariables false
namespace Go.Pw1
open Go Go.Eng
/-- A pair of which more is known. -/
structure More (p x : Pr) : Prop where
  ok : x.Ok
  near : x.near = p.near
  far : x.far = p.far
  len : x.things.length = p.things.length
  p1 : (powers0 p).1 ≤ (powers0 x).1
  p2 : (powers0 x).2 ≤ (powers0 p).2
  th : ∀ i : Nat, i < p.things.length → (shift (thingAt p i)).1 ≤ (shift (thingAt x i)).1 ∧ (shift (thingAt x i)).2 ≤ (shift (thingAt p i)).2 ∧ (levelS x (thingAt x i) = true → levelS p (thingAt p i) = true) ∧ ((thingAt x i).far = (thingAt p i).far ∨ (thingAt p i).far = 0)
theorem More.shown {p x : Pr} (h : More p x) {i : Nat} (hi : i < p.things.length) : (shownS (thingAt p i)).1 ≤ (shownS (thingAt x i)).1 ∧ (shownS (thingAt x i)).2 ≤ (shownS (thingAt p i)).2 := by
  obtain ⟨h1, h2, _⟩ := h.th i hi
  simp only [shownS, nar]
  omega
theorem More.pow {p x : Pr} (hp : p.Ok) (h : More p x) {i : Nat} (hi : i < p.things.length) {w : Int} (hw : 1 ≤ w) (hin : InB w (powersR x (thingAt x i))) : InB w (powersR p (thingAt p i)) := by
  obtain ⟨z1, z2, st, hb, hl⟩ := stl_of h.ok (thing_mem (p := x) (by rw [h.len]; exact hi)) hw hin
  obtain ⟨h1, h2, h3, h4⟩ := h.th i hi
  obtain ⟨g1, g2⟩ := h.shown hi
  have hbp : isB (shownS (thingAt p i)) = true := by
    have := st.s1
    simp only [isB, decide_eq_true_eq]
    omega
  have sb := shown_bd hbp
  have hlp := h3 hl
  rw [st.e1] at hin
  have hth := (hp.ths _ (thing_mem hi)).2
  have hthx := (h.ok.ths _ (thing_mem (p := x) (by rw [h.len]; exact hi))).2
  have s0 := st.s0
  have s1 := st.s1
  have n1 := hp.n1
  have n2 := hp.n2
  have hn := h.near
  have hf := h.far
  unfold powersR
  rw [if_pos (by rw [hbp, hlp]; rfl)]
  unfold powersS
  by_cases hfp : (thingAt p i).far = 0
  · rw [if_pos hfp]
    have hz : p.near ≤ z1 ∧ z2 ≤ p.far := by
      by_cases hfx : (thingAt x i).far = 0
      · obtain ⟨rfl, rfl⟩ := st.other hfx; omega
      · obtain ⟨rfl, rfl⟩ := st.mark hfx; omega
    simp only [InB] at hin ⊢
    have m1 := Int.mul_le_mul g1 hz.1 (by omega) (by omega)
    have m2 := Int.mul_le_mul (show (shownS (thingAt x i)).2 + 1 ≤ (shownS (thingAt p i)).2 + 1 by omega) hz.2 (by have := st.le1; have := st.le2; omega) (by omega)
    omega
  · rw [if_neg hfp]
    have hfx : (thingAt x i).far = (thingAt p i).far := h4.resolve_right hfp
    obtain ⟨rfl, rfl⟩ := st.mark (by rw [hfx]; exact hfp)
    rw [hfx] at hin
    have hz : 0 ≤ (thingAt p i).far := by omega
    simp only [InB] at hin ⊢
    have m1 := mul_mono hz g1
    have m2 := mul_mono hz (show (shownS (thingAt x i)).2 + 1 ≤ (shownS (thingAt p i)).2 + 1 by omega)
    omega
theorem More.all {p x : Pr} (hp : p.Ok) (h : More p x) {w : Int} (hin : InB w (allS x)) : InB w (allS p) := by
  have hw : 1 ≤ w := by have := (allS_bd h.ok).1; simp only [InB] at hin; omega
  rw [allS_in] at hin ⊢
  refine ⟨?_, fun t ht hf => ?_⟩
  · have h1 := h.p1
    have h2 := h.p2
    have h3 := hin.1
    simp only [InB] at h3 ⊢
    omega
  · obtain ⟨i, hi, rfl⟩ := mem_thing ht
    refine h.pow hp hi hw (hin.2 _ (thing_mem (p := x) (by rw [h.len]; exact hi)) ?_)
    rw [(h.th i hi).2.2.2.resolve_right hf]
    exact hf
theorem More.isB {p x : Pr} (hp : p.Ok) (h : More p x) (hx : isB (allS x) = true) : isB (allS p) = true := isB_of (h.all hp (isB_iff.1 hx))
theorem More.in {p x : Pr} (hp : p.Ok) (h : More p x) (hb : Pw1.isB (allS x) = true) : (allS p).1 ≤ (allS x).1 ∧ (allS x).2 ≤ (allS p).2 := by
  have h1 := h.all hp (isB_iff.1 hb)
  have h2 := h.all hp (show InB (allS x).2 (allS x) from ⟨(isB_iff.1 hb).2, Int.le_refl _⟩)
  simp only [InB] at h1 h2
  omega
theorem More.still {p x : Pr} (hp : p.Ok) (h : More p x) {i : Nat} (hi : i < p.things.length) (hs : Pw1.isB (nar (allS x) (powersR x (thingAt x i))) = true) : Pw1.isB (nar (allS p) (powersR p (thingAt p i))) = true := by
  obtain ⟨w, h1, h2⟩ := isB_nar hs
  have hw : 1 ≤ w := by have := (allS_bd h.ok).1; simp only [InB] at h1; omega
  exact isB_of (inB_nar.2 ⟨h.all hp h1, h.pow hp hi hw h2⟩)
theorem More.farS {p x : Pr} (hp : p.Ok) (h : More p x) {i : Nat} (hi : i < p.things.length) (hb : Pw1.isB (allS x) = true) (hs : Pw1.isB (nar (allS x) (powersR x (thingAt x i))) = true) :
    (farS p (thingAt p i) (allS p)).1 ≤ (Pw1.farS x (thingAt x i) (allS x)).1 ∧ (Pw1.farS x (thingAt x i) (allS x)).2 ≤ (Pw1.farS p (thingAt p i) (allS p)).2 := by
  obtain ⟨w, h1, h2⟩ := isB_nar hs
  have hw : 1 ≤ w := by have := (allS_bd h.ok).1; simp only [InB] at h1; omega
  have hxm := thing_mem (p := x) (show i < x.things.length by rw [h.len]; exact hi)
  obtain ⟨z1, z2, st, _, _⟩ := stl_of h.ok hxm hw h2
  obtain ⟨y1, y2, sp, _, _⟩ := stl_of hp (thing_mem hi) hw (h.pow hp hi hw h2)
  obtain ⟨g1, g2⟩ := h.shown hi
  obtain ⟨a1, a2⟩ := h.in hp hb
  have ha := (allS_bd hp).1
  have hax := (isB_iff.1 hb).2
  obtain ⟨_, _, _, h4⟩ := h.th i hi
  have n1 := hp.n1
  have n2 := hp.n2
  have hth := (hp.ths _ (thing_mem hi)).2
  have hthx := (h.ok.ths _ hxm).2
  have hn := h.near
  have hf := h.far
  have lx : (thingAt x i).far ≠ 0 → InB (allS x).1 (powersR x (thingAt x i)) ∧ InB (allS x).2 (powersR x (thingAt x i)) := fun hf => ⟨(allS_in.1 (isB_iff.1 hb)).2 _ hxm hf, (allS_in.1 (show InB (allS x).2 (allS x) from ⟨hax, Int.le_refl _⟩)).2 _ hxm hf⟩
  rw [st.e1] at lx
  simp only [InB] at lx
  have s0 := sp.s0
  have s1 := sp.s1
  have t0 := st.s0
  have t1 := st.s1
  unfold Pw1.farS
  generalize (allS p).1 = u at *
  generalize (allS p).2 = v at *
  generalize (allS x).1 = u' at *
  generalize (allS x).2 = v' at *
  generalize (shownS (thingAt p i)).1 = p1 at *
  generalize (shownS (thingAt p i)).2 = p2 at *
  generalize (shownS (thingAt x i)).1 = x1 at *
  generalize (shownS (thingAt x i)).2 = x2 at *
  by_cases fp : (thingAt p i).far = 0
  · rw [if_pos fp]
    by_cases fx : (thingAt x i).far = 0
    · rw [if_pos fx]
      have d1 : u / (p2 + 1) ≤ u' / (x2 + 1) := by
        rw [le_div (by omega)]
        have e1 : u / (p2 + 1) * (p2 + 1) ≤ u := Int.ediv_mul_le _ (by omega)
        have e2 := Int.mul_le_mul_of_nonneg_left (show x2 + 1 ≤ p2 + 1 by omega) (Int.ediv_nonneg (show 0 ≤ u by omega) (show 0 ≤ p2 + 1 by omega))
        omega
      refine ⟨by simp only; omega, ?_⟩
      by_cases hp1 : 0 < p1
      · rw [if_pos hp1, if_pos (by omega)]
        have d2 : v' / x1 ≤ v / p1 := by
          rw [le_div hp1]
          have e1 : v' / x1 * x1 ≤ v' := Int.ediv_mul_le _ (by omega)
          have e2 := Int.mul_le_mul_of_nonneg_left (show p1 ≤ x1 by omega) (Int.ediv_nonneg (show 0 ≤ v' by omega) (show 0 ≤ x1 by omega))
          omega
        simp only; omega
      · rw [if_neg hp1]
        simp only
        split <;> omega
    · rw [if_neg fx]
      obtain ⟨rfl, rfl⟩ := st.mark fx
      have hl := lx fx
      have m1 := mul_mono (c := (thingAt x i).far) (by omega) g1
      have m2 := mul_mono (c := (thingAt x i).far) (by omega) (show x2 + 1 ≤ p2 + 1 by omega)
      have d1 : u / (p2 + 1) < (thingAt x i).far := by rw [div_lt (by omega), Int.mul_comm]; omega
      refine ⟨by simp only; omega, ?_⟩
      simp only
      split
      · have d2 : (thingAt x i).far ≤ v / p1 := by rw [le_div (by omega), Int.mul_comm]; omega
        omega
      · omega
  · rw [if_neg fp]
    have fx : (thingAt x i).far = (thingAt p i).far := h4.resolve_right fp
    rw [if_neg (by rw [fx]; exact fp), fx]
    exact ⟨Int.le_refl _, Int.le_refl _⟩
theorem More.good {p x : Pr} (hp : p.Ok) (h : More p x) {s : Nat} (hg : Good x s) : Good p s := by
  have h1 := (with_in _).1 (isB_iff.1 hg)
  have hw : 1 ≤ (withK x s x.things.length).1 := by have := (allS_bd h.ok).1; have := h1.1; simp only [InB] at this; omega
  refine isB_of (x := (withK x s x.things.length).1) ((with_in _).2 ⟨h.all hp h1.1, fun i hi hb => h.pow hp hi hw (h1.2 i (by rw [h.len]; exact hi) hb)⟩)
theorem More.few {p x : Pr} (hp : p.Ok) (h : More p x) (hb : Pw1.isB (allS x) = true) : pc (bestS p (allS p)) 12 ≤ pc (bestS x (allS x)) 12 := by
  have := good_le (h.good hp (best_good hb).1)
  unfold Le at this
  omega
/-! ## How a pair becomes one of which more is known -/
def narrowS (s : Sp) (n : Nat) : Sp := ⟨min s.hi (s.lo + (n % 3 : Nat)), max (min s.hi (s.lo + (n % 3 : Nat))) (s.hi - (n / 3 % 3 : Nat))⟩
theorem narrowS_in {s : Sp} (h : s.lo ≤ s.hi) (n : Nat) : s.lo ≤ (narrowS s n).lo ∧ (narrowS s n).lo ≤ (narrowS s n).hi ∧ (narrowS s n).hi ≤ s.hi := by
  simp only [narrowS]
  omega
/-- A thing is another one. -/
def setT (p : Pr) (j : Nat) (t : Th) : Pr := { p with things := p.things.set j t }
theorem setT_at {p : Pr} {j : Nat} {t : Th} (hj : j < p.things.length) (i : Nat) (hi : i < p.things.length) : thingAt (setT p j t) i = if i = j then t else thingAt p i := by
  have h1 : i < (setT p j t).things.length := by simpa [setT] using hi
  rw [thingAt_eq h1 rfl, thingAt_eq hi rfl]
  have h2 : i < (p.things.set j t).length := by simpa using hi
  show (p.things.set j t)[i]'h2 = _
  rw [List.getElem_set]
  by_cases h : i = j
  · subst h; simp
  · rw [if_neg h, if_neg (fun e => h e.symm)]
theorem more_set {p : Pr} (hp : p.Ok) {j : Nat} (hj : j < p.things.length) {t : Th} (ht : t.Ok) (hf : t.far = 0 ∨ (p.near ≤ t.far ∧ t.far ≤ p.far)) (h1 : (shift (thingAt p j)).1 ≤ (shift t).1) (h2 : (shift t).2 ≤ (shift (thingAt p j)).2)
    (h3 : levelS p t = true → levelS p (thingAt p j) = true) (h4 : t.far = (thingAt p j).far ∨ (thingAt p j).far = 0) : More p (setT p j t) := by
  obtain ⟨f1, f2, f3, b1, b2, b3, t1, t2, n1, n2, n3, hl, hth⟩ := hp
  refine ⟨⟨f1, f2, f3, b1, b2, b3, t1, t2, n1, n2, n3, by simpa [setT] using hl, fun u hu => ?_⟩, rfl, rfl, by simp [setT], Int.le_refl _, Int.le_refl _, fun i hi => ?_⟩
  · rcases List.mem_or_eq_of_mem_set hu with hu | rfl
    · exact hth u hu
    · exact ⟨ht, hf⟩
  · rw [setT_at hj i hi]
    split
    · rename_i he
      subst he
      exact ⟨h1, h2, h3, h4⟩
    · exact ⟨Int.le_refl _, Int.le_refl _, fun h => h, .inl rfl⟩
theorem more_size {p : Pr} (hp : p.Ok) {f b : Sp} (hf : p.focal.lo ≤ f.lo ∧ f.lo ≤ f.hi ∧ f.hi ≤ p.focal.hi) (hb : p.base.lo ≤ b.lo ∧ b.lo ≤ b.hi ∧ b.hi ≤ p.base.hi) : More p { p with focal := f, base := b } := by
  obtain ⟨f1, f2, f3, b1, b2, b3, t1, t2, n1, n2, n3, hl, hth⟩ := hp
  refine ⟨⟨by simp only; omega, hf.2.1, by simp only; omega, by simp only; omega, hb.2.1, by simp only; omega, t1, t2, n1, n2, n3, hl, hth⟩, rfl, rfl, rfl, ?_, ?_, fun i hi => ⟨Int.le_refl _, Int.le_refl _, fun h => h, .inl rfl⟩⟩
  · simp only [powers0]
    exact Int.mul_le_mul hf.1 hb.1 (by omega) (by omega)
  · simp only [powers0]
    exact Int.mul_le_mul hf.2.2 hb.2.2 (by omega) (by omega)
theorem more_tilt {p : Pr} (hp : p.Ok) {d : Int} (h0 : 0 ≤ d) (h1 : d ≤ p.tilt) : More p { p with tilt := d } := by
  obtain ⟨f1, f2, f3, b1, b2, b3, t1, t2, n1, n2, n3, hl, hth⟩ := hp
  refine ⟨⟨f1, f2, f3, b1, b2, b3, h0, by simp only; omega, n1, n2, n3, hl, hth⟩, rfl, rfl, rfl, Int.le_refl _, Int.le_refl _, fun i hi => ⟨Int.le_refl _, Int.le_refl _, fun h => ?_, .inl rfl⟩⟩
  have e : thingAt { p with tilt := d } i = thingAt p i := rfl
  rw [e] at h
  simp only [levelS, isB, decide_eq_true_eq] at h ⊢
  simp only [nar] at h ⊢
  omega
theorem more_refl {p : Pr} (hp : p.Ok) : More p p := ⟨hp, rfl, rfl, rfl, Int.le_refl _, Int.le_refl _, fun _ _ => ⟨Int.le_refl _, Int.le_refl _, fun h => h, .inl rfl⟩⟩
theorem more_x {p : Pr} (hp : p.Ok) {j : Nat} (hj : j < p.things.length) {t : Th} (hta : thingAt p j = t) (a b : Nat) : More p (setT p j { t with lx := narrowS t.lx a, rx := narrowS t.rx b }) := by
  obtain ⟨⟨⟨h1, h2, h3⟩, h4, ⟨h7, h8, h9⟩, h10⟩, hf⟩ := hp.ths t (hta ▸ thing_mem hj)
  obtain ⟨a1, a2, a3⟩ := narrowS_in h2 a
  obtain ⟨c1, c2, c3⟩ := narrowS_in h8 b
  refine more_set hp hj ⟨⟨by simp only; omega, a2, by simp only; omega⟩, h4, ⟨by simp only; omega, c2, by simp only; omega⟩, h10⟩ hf ?_ ?_ ?_ ?_
  · rw [hta]; simp only [shift]; omega
  · rw [hta]; simp only [shift]; omega
  · rw [hta]; exact fun h => h
  · rw [hta]; exact .inl rfl
theorem more_y {p : Pr} (hp : p.Ok) {j : Nat} (hj : j < p.things.length) {t : Th} (hta : thingAt p j = t) (a b : Nat) : More p (setT p j { t with ly := narrowS t.ly a, ry := narrowS t.ry b }) := by
  obtain ⟨⟨h4, ⟨h1, h2, h3⟩, h10, ⟨h7, h8, h9⟩⟩, hf⟩ := hp.ths t (hta ▸ thing_mem hj)
  obtain ⟨a1, a2, a3⟩ := narrowS_in h2 a
  obtain ⟨c1, c2, c3⟩ := narrowS_in h8 b
  refine more_set hp hj ⟨h4, ⟨by simp only; omega, a2, by simp only; omega⟩, h10, ⟨by simp only; omega, c2, by simp only; omega⟩⟩ hf ?_ ?_ ?_ ?_
  · rw [hta]; exact Int.le_refl _
  · rw [hta]; exact Int.le_refl _
  · rw [hta]
    intro h
    simp only [levelS, isB, decide_eq_true_eq] at h ⊢
    simp only [nar] at h ⊢
    omega
  · rw [hta]; exact .inl rfl
theorem more_far {p : Pr} (hp : p.Ok) {j : Nat} (hj : j < p.things.length) {t : Th} (hta : thingAt p j = t) {z : Int} (h0 : t.far = 0) (h1 : p.near ≤ z) (h2 : z ≤ p.far) : More p (setT p j { t with far := z }) := by
  obtain ⟨ht, hf⟩ := hp.ths t (hta ▸ thing_mem hj)
  refine more_set hp hj ht (.inr ⟨h1, h2⟩) ?_ ?_ ?_ ?_
  · rw [hta]; exact Int.le_refl _
  · rw [hta]; exact Int.le_refl _
  · rw [hta]; exact fun h => h
  · rw [hta]; exact .inr h0
theorem shift_fine {p : Pr} (hp : p.Ok) {n : Int} (ht : thingR p n = true) : shiftX p n = (shift (thingAt p n), 0) := by
  rw [shift_same]
  unfold shiftR
  rw [ok_isPair hp, ht]
  simp
theorem power_fine {p : Pr} (hp : p.Ok) : ((powerX p).2 = 0 ∧ isB (allS p) = true ∧ (powerX p).1 = allS p) ∨ ((powerX p).2 = 4 ∧ isB (allS p) = false) := by
  rw [power_same]
  unfold powerR openR
  rw [ok_isPair hp]
  cases isB (allS p) <;> simp
theorem thingR_of {p : Pr} {i : Nat} (hi : i < p.things.length) : thingR p i = true := by simp [thingR, within]; omega
theorem best_lt {p : Pr} (hp : p.Ok) (hw : isB (allS p) = true) : bestS p (allS p) < 4096 := by
  have h1 := (best_good hw).2
  have h2 : 2 ^ p.things.length ≤ 2 ^ 12 := Nat.pow_le_pow_right (by omega) hp.len
  omega
theorem more_c6 {p x : Pr} (hp : p.Ok) (h : More p x) {i : Nat} (hi : i < p.things.length) : (!decide ((shiftX p i).2 = 0) || !decide ((shiftX x i).2 = 0) || !(decide ((shiftX p i).1.1 ≤ (shiftX x i).1.1) && decide ((shiftX x i).1.2 ≤ (shiftX p i).1.2)) || !decide ((powerX x).2 = 0) && !decide ((powerX x).2 = 4) || !decide ((powerX p).2 = 0) && decide ((powerX x).2 = 0)) = false := by
  have hix : i < x.things.length := by rw [h.len]; exact hi
  rw [shift_fine hp (thingR_of hi), shift_fine h.ok (thingR_of hix)]
  obtain ⟨h1, h2, _⟩ := h.th i hi
  have hpx := power_fine h.ok
  have hpp := power_fine hp
  have hb := h.isB hp
  rcases hpx with ⟨e1, e2, _⟩ | ⟨e1, e2⟩
  · rcases hpp with ⟨e3, e4, _⟩ | ⟨e3, e4⟩
    · simp [e1, e3, h1, h2]
    · rw [hb e2] at e4; cases e4
  · simp [e1, h1, h2]
theorem more_c8 {p x : Pr} (hp : p.Ok) (h : More p x) (hb : isB (allS x) = true) {i : Nat} (hi : i < p.things.length) :
    (!(decide ((powerX p).1.1 ≤ (powerX x).1.1) && decide ((powerX x).1.2 ≤ (powerX p).1.2)) || !decide ((whyX p i).2 = 0) || !decide ((whyX x i).2 = 0) || !decide ((whyX p i).1 = 0) && decide ((whyX x i).1 = 0) || decide ((distX x i).2 = 0) && (!decide ((distX p i).2 = 0) || !(decide ((distX p i).1.1 ≤ (distX x i).1.1) && decide ((distX x i).1.2 ≤ (distX p i).1.2))) || !decide ((fewestX p).2.2 = 0) || !decide ((fewestX x).2.2 = 0) || decide ((fewestX p).1 < 0) || decide ((fewestX x).1 < 0)) = false := by
  have hix : i < x.things.length := by rw [h.len]; exact hi
  have hbp := h.isB hp hb
  obtain ⟨a1, a2⟩ := h.in hp hb
  obtain ⟨y1, y2⟩ := why_fine hp hbp (thingR_of hi)
  obtain ⟨y3, y4⟩ := why_fine h.ok hb (thingR_of hix)
  have e1 : (powerX p).1 = allS p := by rcases power_fine hp with ⟨_, _, e⟩ | ⟨_, e⟩; exact e; rw [hbp] at e; cases e
  have e2 : (powerX x).1 = allS x := by rcases power_fine h.ok with ⟨_, _, e⟩ | ⟨_, e⟩; exact e; rw [hb] at e; cases e
  rw [few_ok hp hbp, few_ok h.ok hb, e1, e2, y1, y3, y2, y4, dist_eq hp (thingR_of hi) hbp, dist_eq h.ok (thingR_of hix) hb]
  have hw : ¬ whyS p (thingAt p i) (allS p) = 0 → ¬ whyS x (thingAt x i) (allS x) = 0 := fun g1 g2 => g1 ((whyS_zero _ _ _).2 (h.still hp hi ((whyS_zero _ _ _).1 g2)))
  by_cases hs : isB (nar (allS x) (powersR x (thingAt x i))) = true
  · have hsp := h.still hp hi hs
    obtain ⟨d1, d2⟩ := h.farS hp hi hb hs
    rw [if_pos hs, if_pos hsp]
    have z1 := (whyS_zero _ _ _).2 hsp
    simp [a1, a2, d1, d2, z1]
  · rw [if_neg hs]
    have z1 : ¬ whyS x (thingAt x i) (allS x) = 0 := fun g => hs ((whyS_zero _ _ _).1 g)
    simp [a1, a2, z1]
end Go.Pw1
