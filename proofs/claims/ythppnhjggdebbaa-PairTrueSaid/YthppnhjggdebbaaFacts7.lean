/- Layer 1, plain facts for the law on what is true. -/
import Derived.Test.YthppnhjggdebbaaFacts6
set_option linter.unusedSimpArgs false
set_option linter.unusedVariables false
namespace Go.Pw1
open Go Go.Eng
/-- A thing that is truly so far away, with the true power P, and whether it moved. -/
structure Tru (p : Pr) (P : Int) (t : Th) (z : Int) (b : Bool) : Prop where
  ok : t.Ok
  z1 : p.near ≤ z
  z2 : z ≤ p.far
  fr : t.far = 0 ∨ t.far = z
  mv : b = true → t.far = 0
  s1 : b = false → (shift t).1 ≤ P / z
  s2 : b = false → P / z ≤ (shift t).2
  lv : b = false → levelS p t = true
abbrev Item := Th × Int × Bool
/-- The set of those that moved. -/
def mvK (its : List Item) : Nat → Nat
  | 0 => 0
  | k + 1 => if (its.getD k (⟨⟨0, 0⟩, ⟨0, 0⟩, ⟨0, 0⟩, ⟨0, 0⟩, 0⟩, 0, false)).2.2 then mvK its k ||| 2 ^ k else mvK its k
theorem mvK_lt (its : List Item) : ∀ k, mvK its k < 2 ^ k
  | 0 => by simp [mvK]
  | k + 1 => by
    have h := mvK_lt its k
    have h2 : 2 ^ k < 2 ^ (k + 1) := by rw [Nat.pow_succ]; have := Nat.two_pow_pos k; omega
    unfold mvK
    split
    · exact Nat.or_lt_two_pow (by omega) h2
    · omega
theorem mvK_bit (its : List Item) : ∀ k i, (mvK its k).testBit i = (decide (i < k) && (its.getD i (⟨⟨0, 0⟩, ⟨0, 0⟩, ⟨0, 0⟩, ⟨0, 0⟩, 0⟩, 0, false)).2.2)
  | 0, i => by simp [mvK]
  | k + 1, i => by
    have ih := mvK_bit its k i
    unfold mvK
    cases hs : (its.getD k (⟨⟨0, 0⟩, ⟨0, 0⟩, ⟨0, 0⟩, ⟨0, 0⟩, 0⟩, 0, false)).2.2 with
    | true =>
      simp only [if_true, Nat.testBit_or, ih, Nat.testBit_two_pow]
      by_cases h : i = k
      · subst h; rw [hs]; simp
      · rw [show decide (i < k + 1) = decide (i < k) from decide_eq_decide.2 (by omega), decide_eq_false (p := k = i) (fun e => h e.symm), Bool.or_false]
    | false =>
      simp only [Bool.false_eq_true, if_false, ih]
      by_cases h : i = k
      · subst h; rw [hs]; simp
      · rw [show decide (i < k + 1) = decide (i < k) from decide_eq_decide.2 (by omega)]
theorem mvK_app (its l : List Item) : ∀ k, k ≤ its.length → mvK (its ++ l) k = mvK its k
  | 0, _ => rfl
  | k + 1, h => by
    unfold mvK
    rw [mvK_app its l k (by omega), List.getD_eq_getElem?_getD, List.getD_eq_getElem?_getD, List.getElem?_append_left (by omega)]
theorem mvK_snoc (its : List Item) (t : Th) (z : Int) (b : Bool) : mvK (its ++ [(t, z, b)]) (its.length + 1) = if b then mvK its its.length ||| 2 ^ its.length else mvK its its.length := by
  have h : (its ++ [(t, z, b)]).getD its.length (⟨⟨0, 0⟩, ⟨0, 0⟩, ⟨0, 0⟩, ⟨0, 0⟩, 0⟩, 0, false) = (t, z, b) := by simp
  show (if ((its ++ [(t, z, b)]).getD its.length _).2.2 then _ else _) = _
  rw [h, mvK_app its _ _ (Nat.le_refl _)]
/-- A pair, and what is true. -/
structure Truth (p : Pr) (P : Int) (its : List Item) : Prop where
  ok : p.Ok
  pw : InB P (powers0 p)
  p1 : 1 ≤ P
  p2 : P ≤ 2000000
  th : p.things = its.map (·.1)
  tr : ∀ it ∈ its, Tru p P it.1 it.2.1 it.2.2
theorem Truth.len {p : Pr} {P : Int} {its : List Item} (h : Truth p P its) : its.length = p.things.length := by rw [h.th]; simp
theorem tru_in {p : Pr} {P : Int} {t : Th} {z : Int} (hp : p.Ok) (hP : 1 ≤ P ∧ P ≤ 2000000) (h : Tru p P t z false) : InB P (powersR p t) ∧ isB (shownS t) = true ∧ (shownS t).1 ≤ P / z ∧ P / z ≤ (shownS t).2 := by
  have n1 := hp.n1
  have h1 := h.s1 rfl
  have h2 := h.s2 rfl
  have hz := h.z1
  have g0 : 0 ≤ P / z := Int.ediv_nonneg (by omega) (by omega)
  have g1 : P / z ≤ 1000 := by
    have : P / z < 1001 := by rw [div_lt (by omega)]; omega
    omega
  have e1 : (shownS t).1 ≤ P / z := by simp only [shownS, nar]; omega
  have e2 : P / z ≤ (shownS t).2 := by simp only [shownS, nar]; omega
  have hb : isB (shownS t) = true := by simp only [isB, decide_eq_true_eq]; omega
  have hs := shown_bd hb
  refine ⟨?_, hb, e1, e2⟩
  have m1 : (shownS t).1 * z ≤ P := by
    have := Int.ediv_mul_le P (show z ≠ 0 by omega)
    have := mul_mono (c := z) (by omega) e1
    omega
  have m2 : P < ((shownS t).2 + 1) * z := by rw [← div_lt (by omega)]; omega
  have z2 := h.z2
  unfold powersR
  rw [if_pos (by rw [hb, h.lv rfl]; rfl)]
  unfold powersS
  split
  · simp only [InB]
    have k1 := Int.mul_le_mul_of_nonneg_left hz hs.1
    have k2 := Int.mul_le_mul_of_nonneg_left z2 (show 0 ≤ (shownS t).2 + 1 by omega)
    omega
  · rename_i hf
    have : t.far = z := h.fr.resolve_left hf
    rw [this]
    simp only [InB]
    omega
theorem Truth.all {p : Pr} {P : Int} {its : List Item} (h : Truth p P its) : InB P (allS p) := by
  rw [allS_in]
  refine ⟨h.pw, fun t ht hf => ?_⟩
  rw [h.th] at ht
  obtain ⟨⟨t', z, b⟩, hi, rfl⟩ := List.mem_map.1 ht
  have hr := h.tr _ hi
  cases b with
  | true => exact absurd (hr.mv rfl) hf
  | false => exact (tru_in h.ok ⟨h.p1, h.p2⟩ hr).1
theorem Truth.isB {p : Pr} {P : Int} {its : List Item} (h : Truth p P its) : Pw1.isB (allS p) = true := isB_of h.all
theorem Truth.at {p : Pr} {P : Int} {its : List Item} (h : Truth p P its) {i : Nat} (hi : i < its.length) : Tru p P (thingAt p i) its[i].2.1 its[i].2.2 := by
  have hi' : i < p.things.length := by rw [← h.len]; exact hi
  have he : thingAt p i = its[i].1 := by
    have h2 : p.things[i]? = (its.map (·.1))[i]? := by rw [h.th]
    rw [thingAt_eq hi' rfl]
    rw [List.getElem?_eq_getElem hi', List.getElem?_map, List.getElem?_eq_getElem hi] at h2
    simpa using h2
  rw [he]
  exact h.tr _ (List.getElem_mem hi)
theorem Truth.bit {p : Pr} {P : Int} {its : List Item} (h : Truth p P its) {i : Nat} (hi : i < its.length) : (mvK its its.length).testBit i = its[i].2.2 := by
  rw [mvK_bit, decide_eq_true hi, Bool.true_and, List.getD_eq_getElem?_getD, List.getElem?_eq_getElem hi]
  rfl
theorem Truth.good {p : Pr} {P : Int} {its : List Item} (h : Truth p P its) : Good p (mvK its its.length) := by
  refine isB_of (x := P) ((with_in _).2 ⟨h.all, fun i hi hb => ?_⟩)
  have hi' : i < its.length := by rw [h.len]; exact hi
  rw [h.bit hi'] at hb
  have := h.at hi'
  rw [hb] at this
  exact (tru_in h.ok ⟨h.p1, h.p2⟩ this).1
theorem pc_le_of {a b : Nat} (h : Le a b) : pc a 12 ≤ pc b 12 := by unfold Le at h; omega
/-- What is asked of the power and of the fewest things. -/
theorem true_c1 {p : Pr} {P : Int} {its : List Item} (h : Truth p P its) {m : Nat} (hm : bestS p (allS p) = m) :
    (!decide ((powerX p).2 = 0) || !(decide ((powerX p).1.1 ≤ P) && decide (P ≤ (powerX p).1.2)) || !decide ((fewestX p).2.2 = 0) || decide ((fewestX p).2.1.2 < (fewestX p).2.1.1) || decide (((pc (mvK its its.length) 12 : Nat) : Int) < ((pc m 12 : Nat) : Int))) = false := by
  have hw := h.isB
  rcases power_fine h.ok with ⟨e1, _, e2⟩ | ⟨_, e⟩
  · have hg := best_good hw
    rw [hm] at hg
    have hin := isB_iff.1 hg.1
    have hP := h.all
    have hle := pc_le_of (hm ▸ good_le h.good)
    rw [few_ok h.ok hw, hm, e1, e2]
    simp only [InB] at hin hP
    simp [hP.1, hP.2]
    omega
  · rw [hw] at e; cases e
theorem stands_fine {p : Pr} (hp : p.Ok) (hw : isB (allS p) = true) {z : Int} (h1 : p.near ≤ z) (h2 : z ≤ p.far) : standsX p z = (((allS p).1 / z, (allS p).2 / z), 0) := by
  rw [stands_same]
  unfold standsR openR
  rw [ok_isPair hp, hw]
  simp [within, h1, h2]
/-- What is asked of a thing that did not move. -/
theorem true_c2 {p : Pr} {P : Int} {its : List Item} (h : Truth p P its) {i : Nat} (hi : i < its.length) {z : Int} (hz : its[i].2.1 = z) (hb : its[i].2.2 = false) :
    (whyX p i).1 = 0 ∧ (whyX p i).2 = 0 ∧ (distX p i).2 = 0 ∧ ((distX p i).1.1 ≤ z ∧ z ≤ (distX p i).1.2) ∧ (standsX p z).2 = 0 ∧ ((standsX p z).1.1 ≤ P / z ∧ P / z ≤ (standsX p z).1.2) := by
  have hw := h.isB
  have hp := h.ok
  have hi' : i < p.things.length := by rw [← h.len]; exact hi
  have ht := h.at hi
  rw [hz, hb] at ht
  obtain ⟨hin, hsb, hs1, hs2⟩ := tru_in hp ⟨h.p1, h.p2⟩ ht
  have hall := h.all
  have hst : isB (nar (allS p) (powersR p (thingAt p i))) = true := isB_of (inB_nar.2 ⟨hall, hin⟩)
  obtain ⟨y1, y2⟩ := why_fine hp hw (thingR_of hi')
  have n1 := hp.n1
  have z1 := ht.z1
  have z2 := ht.z2
  have hzp : 0 < z := by omega
  simp only [InB] at hall
  refine ⟨by rw [y2]; exact (whyS_zero _ _ _).2 hst, y1, ?_⟩
  rw [dist_eq hp (thingR_of hi') hw, if_pos hst, stands_fine hp hw z1 z2]
  refine ⟨rfl, ?_, rfl, Int.ediv_le_ediv hzp hall.1, Int.ediv_le_ediv hzp hall.2⟩
  unfold farS
  by_cases hf : (thingAt p i).far = 0
  · rw [if_pos hf]
    have m1 : (shownS (thingAt p i)).1 * z ≤ P := by
      have := Int.ediv_mul_le P (show z ≠ 0 by omega)
      have := mul_mono (c := z) (by omega) hs1
      omega
    have m2 : P < ((shownS (thingAt p i)).2 + 1) * z := by rw [← div_lt (by omega)]; omega
    have hs := shown_bd hsb
    have d1 : (allS p).1 / ((shownS (thingAt p i)).2 + 1) < z := by rw [div_lt (by omega), Int.mul_comm]; omega
    refine ⟨by simp only; omega, ?_⟩
    simp only
    split
    · have : z ≤ (allS p).2 / (shownS (thingAt p i)).1 := by rw [le_div (by omega), Int.mul_comm]; omega
      omega
    · exact z2
  · rw [if_neg hf]
    have := ht.fr.resolve_left hf
    simp only
    omega
/-- What is asked of two things of which the second one, or both, did not move. -/
theorem true_c3 {p : Pr} {P : Int} {its : List Item} (h : Truth p P its) {i j : Nat} (hi : i < its.length) (hj : j < its.length) {z y : Int} (hz : its[i].2.1 = z) (hy : its[j].2.1 = y) (hb : its[i].2.2 = false) :
    (!decide ((nearerX p i j).2 = 0) || decide (((mvK its its.length >>> j &&& 1 : Nat) : Int) = 0) && decide ((nearerX p i j).1 = 2) && decide (y ≤ z)) = false := by
  have hp := h.ok
  have hi' : i < p.things.length := by rw [← h.len]; exact hi
  have hj' : j < p.things.length := by rw [← h.len]; exact hj
  have he : nearerX p i j = (nearerS (thingAt p i) (thingAt p j), 0) := by
    rw [nearer_same]
    unfold nearerR
    rw [ok_isPair hp, thingR_of hi', thingR_of hj']
    rfl
  rw [he]
  by_cases hbj : its[j].2.2 = false
  · have ti := h.at hi
    have tj := h.at hj
    rw [hz, hb] at ti
    rw [hy, hbj] at tj
    have a1 := ti.s1 rfl
    have a2 := tj.s2 rfl
    by_cases h2 : nearerS (thingAt p i) (thingAt p j) = 2
    · have hlt := nearerS_two.1 h2
      have hyz : z < y := by
        by_cases hc : z < y
        · exact hc
        · have n1 := hp.n1
          have b1 := tj.z1
          have b2 := ti.z1
          have hP := h.p1
          have k1 : P / z ≤ P / y := by
            rw [le_div (by omega)]
            have c1 := Int.ediv_mul_le P (show z ≠ 0 by omega)
            have c2 := Int.mul_le_mul_of_nonneg_left (show y ≤ z by omega) (Int.ediv_nonneg (show 0 ≤ P by omega) (show 0 ≤ z by omega))
            omega
          omega
      simp [h2]
      omega
    · simp [h2]
  · have h3 : (mvK its its.length).testBit j = true := by rw [h.bit hj]; simpa using hbj
    have h4 : ¬ ((mvK its its.length >>> j &&& 1 : Nat) : Int) = 0 := fun e => by rw [bit_zero e] at h3; cases h3
    rw [decide_eq_false h4]
    simp
/-- A pair without things, by what is drawn. -/
def trueP (f b d1 d2 d3 d4 tl n r : Int) : Pr := ⟨⟨f - d1, f + d2⟩, ⟨b - d3, b + d4⟩, tl, 2000 + n, 50000 + r, []⟩
theorem trueP_ok {f b d1 d2 d3 d4 tl n r : Int} (hf : 5000 ≤ f ∧ f < 15000) (hb : 60 ≤ b ∧ b < 100) (h1 : 0 ≤ d1 ∧ d1 < 30) (h2 : 0 ≤ d2 ∧ d2 < 30) (h3 : 0 ≤ d3 ∧ d3 < 3) (h4 : 0 ≤ d4 ∧ d4 < 3) (ht : 0 ≤ tl ∧ tl < 9) (hn : 0 ≤ n ∧ n < 500) (hr : 0 ≤ r ∧ r < 50000) :
    (trueP f b d1 d2 d3 d4 tl n r).Ok ∧ InB (f * b) (powers0 (trueP f b d1 d2 d3 d4 tl n r)) ∧ 1 ≤ f * b ∧ f * b ≤ 2000000 := by
  have m1 := Int.mul_le_mul (show f - d1 ≤ f by omega) (show b - d3 ≤ b by omega) (by omega) (by omega)
  have m2 := Int.mul_le_mul (show f ≤ f + d2 by omega) (show b ≤ b + d4 by omega) (by omega) (by omega)
  have m3 := Int.mul_le_mul (show (1 : Int) ≤ f by omega) (show 1 ≤ b by omega) (by omega) (by omega)
  have m4 := Int.mul_le_mul (show f ≤ 15000 by omega) (show b ≤ 100 by omega) (by omega) (by omega)
  refine ⟨⟨?_, ?_, ?_, ?_, ?_, ?_, ht.1, ?_, ?_, ?_, ?_, by simp [trueP], fun t h => by simp [trueP] at h⟩, ⟨m1, m2⟩, by omega, by omega⟩ <;> simp only [trueP] <;> omega
/-- What is drawn of a thing. -/
theorem tru_still {p : Pr} (hp : p.tilt ≤ 8) (hn : 2000 ≤ p.near) {P : Int} (hP : 1 ≤ P ∧ P ≤ 2000000) {x y z s d : Int} (hx : -500 ≤ x ∧ x < 500) (hy : -500 ≤ y ∧ y < 500) (hz1 : p.near ≤ z) (hz2 : z ≤ p.far) (hs : P / z = s) (hd : 0 ≤ d ∧ d < 2 * p.tilt + 1) {a b c e : Int × Int}
    (ha : (0 ≤ a.1 ∧ a.1 < 4) ∧ (0 ≤ a.2 ∧ a.2 < 4)) (hb : (0 ≤ b.1 ∧ b.1 < 4) ∧ (0 ≤ b.2 ∧ b.2 < 4)) (hc : (0 ≤ c.1 ∧ c.1 < 4) ∧ (0 ≤ c.2 ∧ c.2 < 4)) (he : (0 ≤ e.1 ∧ e.1 < 4) ∧ (0 ≤ e.2 ∧ e.2 < 4)) {far : Int} (hf : far = 0 ∨ far = z) :
    Tru p P ⟨⟨x - a.1, x + a.2⟩, ⟨y - b.1, y + b.2⟩, ⟨x - s - c.1, x - s + c.2⟩, ⟨y + d - p.tilt - e.1, y + d - p.tilt + e.2⟩, far⟩ z false := by
  have g0 : 0 ≤ P / z := Int.ediv_nonneg (by omega) (by omega)
  have g1 : P / z < 1001 := by rw [div_lt (by omega)]; omega
  refine ⟨⟨⟨?_, ?_, ?_⟩, ⟨?_, ?_, ?_⟩, ⟨?_, ?_, ?_⟩, ⟨?_, ?_, ?_⟩⟩, hz1, hz2, hf, fun h => (by cases h), fun _ => ?_, fun _ => ?_, fun _ => ?_⟩
  all_goals try (simp only; omega)
  · simp only [shift]; omega
  · simp only [shift]; omega
  · simp only [levelS, isB, decide_eq_true_eq]
    simp only [nar]
    omega
theorem tru_moved {p : Pr} {P z : Int} {t : Th} (ht : t.lx.Ok 4000 ∧ t.ly.Ok 4000) (hf : t.far = 0) (hz1 : p.near ≤ z) (hz2 : z ≤ p.far) {u v : Int} (hu : -500 ≤ u ∧ u < 500) (hv : -500 ≤ v ∧ v < 500) {c e : Int × Int} (hc : (0 ≤ c.1 ∧ c.1 < 4) ∧ (0 ≤ c.2 ∧ c.2 < 4)) (he : (0 ≤ e.1 ∧ e.1 < 4) ∧ (0 ≤ e.2 ∧ e.2 < 4)) :
    Tru p P { t with rx := ⟨u - c.1, u + c.2⟩, ry := ⟨v - e.1, v + e.2⟩ } z true := by
  refine ⟨⟨ht.1, ht.2, ⟨?_, ?_, ?_⟩, ⟨?_, ?_, ?_⟩⟩, hz1, hz2, .inl hf, fun _ => hf, fun h => (by cases h), fun h => (by cases h), fun h => (by cases h)⟩
  all_goals (simp only; omega)
theorem truth_of {p : Pr} (hp : p.Ok) (h0 : p.things = []) {P : Int} (hP : InB P (powers0 p)) (h1 : 1 ≤ P) (h2 : P ≤ 2000000) {its : List Item} (hl : its.length ≤ 12) (h : ∀ it ∈ its, Tru p P it.1 it.2.1 it.2.2) : Truth { p with things := its.map (·.1) } P its := by
  obtain ⟨f1, f2, f3, b1, b2, b3, t1, t2, n1, n2, n3, _, _⟩ := hp
  refine ⟨⟨f1, f2, f3, b1, b2, b3, t1, t2, n1, n2, n3, by simpa using hl, fun t ht => ?_⟩, hP, h1, h2, rfl, fun it hi => ?_⟩
  · obtain ⟨it, hi, rfl⟩ := List.mem_map.1 ht
    have := h it hi
    refine ⟨this.ok, ?_⟩
    rcases this.fr with g | g
    · exact .inl g
    · right; rw [g]; exact ⟨this.z1, this.z2⟩
  · obtain ⟨g1, g2, g3, g4, g5, g6, g7, g8⟩ := h it hi
    exact ⟨g1, g2, g3, g4, g5, g6, g7, g8⟩
end Go.Pw1
