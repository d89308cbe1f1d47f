/- Layer 3, plain facts for the laws: what fits, eyes, rooms. -/
import Derived.Test.YthoheicppmbepaaGreatMv
set_option linter.unusedSimpArgs false
set_option linter.unusedVariables false
namespace Go.Pw1
open Go Go.Eng
theorem hurtF_zero {c : Cd} {t : Tr} : ∀ {l : List Int}, (hurtF c t l).2 = 0 ↔ ∀ i ∈ l, whyM c t i = 0
  | [] => by simp [hurtF]
  | i :: l => by
    have ih := hurtF_zero (c := c) (t := t) (l := l)
    unfold hurtF
    split
    · rename_i h; simp [h, ih]
    · rename_i h; simp [h]
theorem hurtF_in {c : Cd} {t : Tr} : ∀ {l : List Int}, (hurtF c t l).2 ≠ 0 → (hurtF c t l).1 ∈ l ∧ whyM c t (hurtF c t l).1 = (hurtF c t l).2
  | [], h => absurd rfl h
  | i :: l, h => by
    unfold hurtF at h ⊢
    split at h
    · rename_i h0
      rw [if_pos h0]
      obtain ⟨g1, g2⟩ := hurtF_in h
      exact ⟨List.mem_cons_of_mem _ g1, g2⟩
    · rename_i h0
      rw [if_neg h0]
      exact ⟨by simp, rfl⟩
theorem seenN_iff {p : Pr} {j : Nat} : (j : Int) ∈ seenN p ↔ j < p.things.length ∧ (whyX p j).1 = 0 := by
  constructor
  · intro h
    obtain ⟨k, h1, h2, h3⟩ := seenN_in h
    have : j = k := by omega
    subst this
    exact ⟨h2, h3⟩
  · rintro ⟨h1, h2⟩
    exact List.mem_map.2 ⟨_, seenK_in h1 h2, rfl⟩
theorem fit_iff {c : Cd} {t : Tr} : fitT c t = true ↔ ∀ j : Nat, j < c.p.things.length → (whyX c.p j).1 = 0 → whyM c t j = 0 := by
  unfold fitT hurtM
  rw [decide_eq_true_eq, hurtF_zero]
  constructor
  · exact fun h j h1 h2 => h j (seenN_iff.2 ⟨h1, h2⟩)
  · intro h i hi
    obtain ⟨j, rfl, h1, h2⟩ := seenN_in hi
    exact h j h1 h2
theorem why_zero {c : Cd} {t : Tr} {i : Int} : whyM c t i = 0 ↔ (hurtL c t (shiftX c.p i).1 (thingAt c.p i)).any id = false := by
  have h := idxF_any id (hurtL c t (shiftX c.p i).1 (thingAt c.p i))
  have h2 := idxF_ge id (hurtL c t (shiftX c.p i).1 (thingAt c.p i))
  unfold whyM
  rw [← h, decide_eq_false_iff_not]
  omega
/-- Nothing of a thing hurts. -/
structure Fits (c : Cd) (t : Tr) (s : Int × Int) (x : Th) : Prop where
  n : c.eyes.hi - c.squeeze ≤ apartM c t - s.2
  f : apartM c t - s.1 ≤ c.eyes.lo + c.prism
  w : s.2 ≤ windowM c t + c.front
  b : windowM c t - c.deep ≤ s.1
  o1 : c.step * t.ll - c.half ≤ x.lx.lo
  o2 : x.lx.hi ≤ c.half - c.step * t.lr
  o3 : c.step * t.rl - c.half ≤ x.rx.lo
  o4 : x.rx.hi ≤ c.half - c.step * t.rr
theorem why_fits {c : Cd} {t : Tr} {i : Int} : whyM c t i = 0 ↔ Fits c t (shiftX c.p i).1 (thingAt c.p i) := by
  rw [why_zero]
  simp only [hurtL, offM, List.any_cons, List.any_nil, id, Bool.or_false, Bool.or_eq_false_iff, decide_eq_false_iff_not, Int.not_lt]
  constructor
  · rintro ⟨h1, h2, h3, h4, ⟨h5, h6⟩, h7, h8⟩; exact ⟨h1, h2, h3, h4, h5, h6, h7, h8⟩
  · rintro ⟨h1, h2, h3, h4, h5, h6, h7, h8⟩; exact ⟨h1, h2, h3, h4, ⟨h5, h6⟩, h7, h8⟩
/-! ## The truth -/
theorem true_fits {c : Cd} {t : Tr} {x : Th} (h : Fits c t (shift x) x) {l r e : Int} (hl : x.lx.lo ≤ l ∧ l ≤ x.lx.hi) (hr : x.rx.lo ≤ r ∧ r ≤ x.rx.hi) (he : c.eyes.lo ≤ e ∧ e ≤ c.eyes.hi) :
    0 ≤ c.half - c.step * t.lr - l ∧ 0 ≤ r + c.half - c.step * t.rl ∧ c.step * t.ll ≤ l + c.half ∧ c.step * t.rr ≤ c.half - r ∧ e - c.squeeze ≤ (c.half - c.step * t.lr - l) + (r + c.half - c.step * t.rl) ∧ (c.half - c.step * t.lr - l) + (r + c.half - c.step * t.rl) ≤ e + c.prism ∧
      l - r ≤ windowM c t + c.front ∧ windowM c t - c.deep ≤ l - r := by
  obtain ⟨h1, h2, h3, h4, h5, h6, h7, h8⟩ := h
  simp only [shift, apartM, Int.mul_add] at h1 h2 h3 h4
  omega
/-! ## The least one -/
theorem sum_le {c : Cd} (hc : c.Ok) {t v : Tr} (h : bestM c = some t) (hv : trIs c v = true) (hf : fitT c v = true) : sumT t ≤ sumT v := by
  obtain ⟨_, _, h3⟩ := best_is hc h
  rcases h3 v hv hf with rfl | h
  · exact Int.le_refl _
  · unfold befT at h; omega
theorem not_before {c : Cd} (hc : c.Ok) {t v : Tr} (h : bestM c = some t) (hv : trIs c v = true) (hf : fitT c v = true) : ¬ (sumT v < sumT t ∨ (sumT v = sumT t ∧ (v.ll < t.ll ∨ (v.ll = t.ll ∧ (v.lr < t.lr ∨ (v.lr = t.lr ∧ v.rl < t.rl)))))) := by
  obtain ⟨_, _, h3⟩ := best_is hc h
  rcases h3 v hv hf with rfl | h
  · omega
  · unfold befT lexT at h; omega
/-! ## Two things too far apart -/
theorem wideR_some {p : Pr} {most i k : Int} : ∀ {l : List Int}, wideR p most i l = some k → k ∈ l ∧ most < (shiftX p i).1.2 - (shiftX p k).1.1
  | x :: l, h => by
    unfold wideR at h
    split at h
    · cases h; exact ⟨by simp, by assumption⟩
    · obtain ⟨g1, g2⟩ := wideR_some h; exact ⟨List.mem_cons_of_mem _ g1, g2⟩
theorem wideL_some {p : Pr} {most : Int} {all : List Int} {a : Int × Int} : ∀ {l : List Int}, wideL p most all l = some a → a.1 ∈ l ∧ a.2 ∈ all ∧ most < (shiftX p a.1).1.2 - (shiftX p a.2).1.1
  | x :: l, h => by
    unfold wideL at h
    split at h
    · rename_i k hk
      cases h
      obtain ⟨g1, g2⟩ := wideR_some hk
      exact ⟨by simp, g1, g2⟩
    · obtain ⟨g1, g2, g3⟩ := wideL_some h; exact ⟨List.mem_cons_of_mem _ g1, g2, g3⟩
theorem wide_some {p : Pr} {most : Int} {a : Int × Int} (h : wideM p most = some a) : a.1 ∈ seenN p ∧ a.2 ∈ seenN p ∧ most < (shiftX p a.1).1.2 - (shiftX p a.2).1.1 := wideL_some h
/-! ## Eyes -/
theorem narL_lo {z : Int} : ∀ {l : List (Int × Int)} {a : Int × Int}, (narL a l).1 ≤ z ↔ (a.1 ≤ z ∧ ∀ x ∈ l, x.1 ≤ z)
  | [], a => by simp [narL]
  | x :: l, a => by
    rw [show narL a (x :: l) = narL (nar a x) l from rfl, narL_lo]
    simp only [nar, List.mem_cons, forall_eq_or_imp]
    constructor
    · rintro ⟨h1, h2⟩; exact ⟨by omega, by omega, h2⟩
    · rintro ⟨h1, h2, h3⟩; exact ⟨by omega, h3⟩
theorem narL_hi {z : Int} : ∀ {l : List (Int × Int)} {a : Int × Int}, z ≤ (narL a l).2 ↔ (z ≤ a.2 ∧ ∀ x ∈ l, z ≤ x.2)
  | [], a => by simp [narL]
  | x :: l, a => by
    rw [show narL a (x :: l) = narL (nar a x) l from rfl, narL_hi]
    simp only [nar, List.mem_cons, forall_eq_or_imp]
    constructor
    · rintro ⟨h1, h2⟩; exact ⟨by omega, by omega, h2⟩
    · rintro ⟨h1, h2, h3⟩; exact ⟨by omega, h3⟩
theorem narL_in {z : Int} {l : List (Int × Int)} {a : Int × Int} : ((narL a l).1 ≤ z ∧ z ≤ (narL a l).2) ↔ ((a.1 ≤ z ∧ z ≤ a.2) ∧ ∀ x ∈ l, x.1 ≤ z ∧ z ≤ x.2) := by
  rw [narL_lo, narL_hi]
  exact ⟨fun ⟨⟨h1, h2⟩, h3, h4⟩ => ⟨⟨h1, h3⟩, fun x hx => ⟨h2 x hx, h4 x hx⟩⟩, fun ⟨⟨h1, h2⟩, h3⟩ => ⟨⟨h1, fun x hx => (h3 x hx).1⟩, h2, fun x hx => (h3 x hx).2⟩⟩
/-- What only the members decide. -/
theorem narL_eq {a : Int × Int} {l l' : List (Int × Int)} (h : ∀ x, x ∈ l ↔ x ∈ l') : narL a l = narL a l' := by
  refine Prod.ext (Int.le_antisymm ?_ ?_) (Int.le_antisymm ?_ ?_)
  · rw [narL_lo]; obtain ⟨h1, h2⟩ := narL_lo.1 (Int.le_refl (narL a l').1); exact ⟨h1, fun x hx => h2 x ((h x).1 hx)⟩
  · rw [narL_lo]; obtain ⟨h1, h2⟩ := narL_lo.1 (Int.le_refl (narL a l).1); exact ⟨h1, fun x hx => h2 x ((h x).2 hx)⟩
  · rw [narL_hi]; obtain ⟨h1, h2⟩ := narL_hi.1 (Int.le_refl (narL a l).2); exact ⟨h1, fun x hx => h2 x ((h x).2 hx)⟩
  · rw [narL_hi]; obtain ⟨h1, h2⟩ := narL_hi.1 (Int.le_refl (narL a l').2); exact ⟨h1, fun x hx => h2 x ((h x).1 hx)⟩
/-- Eyes that are turned too far by something. -/
def turnedM (c : Cd) (t : Tr) (n : Int) (j : Nat) : Prop := (whyX c.p j).1 = 0 ∧ (apartM c t - (shiftX c.p j).1.2 < n - c.squeeze ∨ n + c.prism < apartM c t - (shiftX c.p j).1.1)
theorem seenM_iff {p : Pr} {e : Int × (Int × Int)} : e ∈ seenM p ↔ ∃ j : Nat, e = ((j : Int), (shiftX p j).1) ∧ j < p.things.length ∧ (whyX p j).1 = 0 :=
  ⟨seenK_lt p _ e, fun ⟨_, h1, h2, h3⟩ => h1 ▸ seenK_in h2 h3⟩
theorem eyes_iff {c : Cd} {t : Tr} {n : Int} : ((eyesOf c t).1 ≤ n ∧ n ≤ (eyesOf c t).2) ↔ ((1 ≤ n ∧ n ≤ 10000) ∧ ∀ j, j < c.p.things.length → ¬ turnedM c t n j) := by
  unfold eyesOf
  rw [narL_in]
  refine and_congr Iff.rfl ⟨fun h j hj => ?_, fun h x hx => ?_⟩
  · rintro ⟨h1, h2⟩
    have := h _ (List.mem_map.2 ⟨_, seenM_iff.2 ⟨j, rfl, hj, h1⟩, rfl⟩)
    simp only [eyeB] at this
    omega
  · obtain ⟨e, he, rfl⟩ := List.mem_map.1 hx
    obtain ⟨j, rfl, hj, hw⟩ := seenM_iff.1 he
    have h2 : ¬ (apartM c t - (shiftX c.p j).1.2 < n - c.squeeze ∨ n + c.prism < apartM c t - (shiftX c.p j).1.1) := fun g => h j hj ⟨hw, g⟩
    simp only [eyeB]
    omega
theorem all_snoc {α : Type} {f : α → Bool} {l : List α} {k : Nat} (h : k < l.length) (h1 : (l.take k).all f = true) (h2 : f l[k] = true) : (l.take (k + 1)).all f = true := by
  rw [List.take_succ_eq_append_getElem h, List.all_append, h1]
  simp [h2]
theorem all_hit {α : Type} {f : α → Bool} {l : List α} {k : Nat} (h : k < l.length) (h2 : f l[k] = false) : l.all f = false := by
  rw [Bool.eq_false_iff]
  intro h3
  rw [List.all_eq_true.1 h3 _ (List.getElem_mem h)] at h2
  cases h2
end Go.Pw1
