/- Layer 3, plain facts for MountMore: a card with less room. -/
import Derived.Test.YthoheicppmbepaaMr
import Derived.Test.YthoheicppmbepaaMp
set_option linter.unusedSimpArgs false
set_option linter.unusedVariables false
namespace Go.Pw1
open Go Go.Eng
structure Less (c x : Cd) : Prop where
  p : x.p = c.p
  half : x.half = c.half
  step : x.step = c.step
  cuts : x.cuts ≤ c.cuts
  elo : x.eyes.lo ≤ c.eyes.lo
  ehi : c.eyes.hi ≤ x.eyes.hi
  prism : x.prism ≤ c.prism
  squeeze : x.squeeze ≤ c.squeeze
  front : x.front ≤ c.front
  deep : x.deep ≤ c.deep
  ok : x.Ok
theorem ok_card {c : Cd} (h : c.Ok) (hp : isPair c.p = true) : cardR c = true := by
  obtain ⟨h1, h2, h3, h4, h5, h6, h7, h8, h9, h10, h11, h12, h13, h14, h15, h16, h17⟩ := h
  simp [cardR, within, *]
theorem Less.win {c x : Cd} (h : Less c x) (t : Tr) : windowM x t = windowM c t := by unfold windowM; rw [h.step]
theorem Less.apart {c x : Cd} (h : Less c x) (t : Tr) : apartM x t = apartM c t := by unfold apartM; rw [h.step, h.half]
theorem Less.tr {c x : Cd} (h : Less c x) {t : Tr} (ht : trIs x t = true) : trIs c t = true := by
  have := h.cuts
  simp only [trIs, badT, within, List.any_cons, List.any_nil, Bool.or_false, Bool.and_eq_true, Bool.not_eq_true', Bool.or_eq_false_iff, Bool.not_eq_false', decide_eq_true_eq] at ht ⊢
  omega
theorem Less.fits {c x : Cd} (h : Less c x) {t : Tr} {s : Int × Int} {y : Th} (hf : Fits x t s y) : Fits c t s y := by
  obtain ⟨f1, f2, f3, f4, f5, f6, f7, f8⟩ := hf
  obtain ⟨_, e1, e2, e3, e4, e5, e6, e7, e8, e9, _⟩ := h
  rw [e1, e2] at f5 f6 f7 f8
  have a1 : apartM x t = apartM c t := by unfold apartM; rw [e1, e2]
  have a2 : windowM x t = windowM c t := by unfold windowM; rw [e2]
  rw [a1] at f1 f2
  rw [a2] at f3 f4
  exact ⟨by omega, by omega, by omega, by omega, f5, f6, f7, f8⟩
theorem Less.fit {c x : Cd} (h : Less c x) {t : Tr} (hf : fitT x t = true) : fitT c t = true := by
  have h1 := fit_iff.1 hf
  rw [h.p] at h1
  refine fit_iff.2 fun j hj hw => why_fits.2 ?_
  have h2 := why_fits.1 (h1 j hj hw)
  rw [h.p] at h2
  exact h.fits h2
theorem Less.open0 {c x : Cd} (h : Less c x) (hc : cardR c = true) : cardR x = true ∧ openM x [] = openM c [] := by
  obtain ⟨_, hp, _, _⟩ := card_open hc
  have hx : cardR x = true := ok_card h.ok (by rw [h.p]; exact hp)
  refine ⟨hx, ?_⟩
  have e1 := hc
  have e2 := hx
  rw [cardR_eq] at e1 e2
  simp [openM, e1, e2, h.p]
/-- The least trimmings. -/
theorem Less.trim {c x : Cd} (h : Less c x) (hc : cardR c = true) : ((trimX c).2 = 4 ∧ (trimX x).2 = 4) ∨ (openM c [] = 0 ∧ openM x [] = 0 ∧
    (((trimX x).2 = 0 ∧ (trimX c).2 = 0 ∧ trIs x (trimX x).1 = true ∧ trIs c (trimX c).1 = true ∧ sumT (trimX c).1 ≤ sumT (trimX x).1) ∨ ((trimX x).2 = 11 ∧ ((trimX c).2 = 0 ∨ (trimX c).2 = 11)))) := by
  obtain ⟨hx, ho⟩ := h.open0 hc
  obtain ⟨hok, _, _, h3⟩ := card_open hc
  rcases h3 with h3 | h3
  · right
    rw [h3] at ho
    refine ⟨h3, ho, ?_⟩
    unfold trimX
    rw [if_pos h3, if_pos ho]
    cases hb : bestM x with
    | none => right; refine ⟨rfl, ?_⟩; cases bestM c <;> simp
    | some u =>
      obtain ⟨u1, u2, _⟩ := best_is h.ok hb
      cases hbc : bestM c with
      | none => have := best_none hok hbc (h.tr u1); rw [h.fit u2] at this; cases this
      | some v => exact .inl ⟨rfl, rfl, u1, (best_is hok hbc).1, sum_le hok hbc (h.tr u1) (h.fit u2)⟩
  · left
    rw [h3] at ho
    simp [trimX, h3, ho]
theorem Less.eyes {c x : Cd} (h : Less c x) {t : Tr} (hx : openM x [t] = 0) (hc : openM c [t] = 0) (h0 : (eyesX x t).2 = 0) : (eyesX c t).2 = 0 ∧ (eyesX c t).1.1 ≤ (eyesX x t).1.1 ∧ (eyesX x t).1.2 ≤ (eyesX c t).1.2 := by
  obtain ⟨_, e1, e2⟩ := eyes_ok h0
  have key : ∀ n, (eyesOf x t).1 ≤ n → n ≤ (eyesOf x t).2 → (eyesOf c t).1 ≤ n ∧ n ≤ (eyesOf c t).2 := fun n h1 h2 => by
    obtain ⟨g1, g2⟩ := eyes_iff.1 ⟨h1, h2⟩
    refine eyes_iff.2 ⟨g1, fun j hj hT => g2 j (by rw [h.p]; exact hj) ?_⟩
    unfold turnedM at hT ⊢
    rw [h.p, h.apart]
    refine ⟨hT.1, ?_⟩
    have := hT.2
    have a1 := h.squeeze
    have a2 := h.prism
    omega
  have k1 := key _ (Int.le_refl _) e2
  have k2 := key _ e2 (Int.le_refl _)
  have e3 : eyesX c t = (eyesOf c t, 0) := by unfold eyesX; rw [if_pos hc, if_neg (by omega)]
  rw [e1, e3]
  exact ⟨rfl, k1.1, k2.2⟩
theorem Less.roomOf {c x : Cd} (h : Less c x) (t : Tr) : (roomOf c t).1 ≤ (roomOf x t).1 ∧ (roomOf x t).2 ≤ (roomOf c t).2 := by
  have a1 := h.elo
  have a2 := h.ehi
  have a3 := h.prism
  have a4 := h.squeeze
  have a5 := h.front
  have a6 := h.deep
  simp only [Pw1.roomOf, nar, h.win, h.apart]
  omega
theorem Less.room {c x : Cd} (h : Less c x) {t : Tr} (hc : openM c [t] = 0) (h0 : (roomX x t).2 = 0) : (roomX c t).2 = 0 ∧ (roomX c t).1.1 ≤ (roomX x t).1.1 ∧ (roomX x t).1.2 ≤ (roomX c t).1.2 := by
  obtain ⟨_, e1, e2⟩ := room_ok h0
  have k := h.roomOf t
  have e3 : roomX c t = (Pw1.roomOf c t, 0) := by unfold roomX; rw [if_pos hc, if_neg (by omega)]
  rw [e1, e3]
  exact ⟨rfl, k.1, k.2⟩
theorem Less.depths {c x : Cd} (h : Less c x) {t : Tr} (hp : isPair c.p = true) (hb : isB (allS c.p) = true) (hc : openM c [t] = 0) (h0 : (depthsX x t).2 = 0) : (depthsX c t).2 = 0 ∧ (depthsX c t).1.1 ≤ (depthsX x t).1.1 ∧ (depthsX x t).1.2 ≤ (depthsX c t).1.2 := by
  have hr : (roomX x t).2 = 0 := by
    unfold depthsX at h0
    split at h0
    · assumption
    · exact h0
  have hrc := (h.room hc hr).1
  have k := h.roomOf t
  have hn : c.p.near ≤ c.p.far := (isPair_ok hp).n2
  have hdx : ∀ r, depthsOf x r = depthsOf c r := fun r => by unfold depthsOf; rw [h.p]
  rcases depths_or hr with ⟨_, d1, d2⟩ | ⟨d1, _⟩
  · rw [hdx] at d1 d2
    have r1 := depthsOf_rng c hn (Pw1.roomOf x t)
    have key : ∀ z, (depthsOf c (Pw1.roomOf x t)).1 ≤ z → z ≤ (depthsOf c (Pw1.roomOf x t)).2 → (depthsOf c (Pw1.roomOf c t)).1 ≤ z ∧ z ≤ (depthsOf c (Pw1.roomOf c t)).2 := fun z h1 h2 => by
      have g := (depths_in hp hb (Pw1.roomOf x t) (z := z) (by omega) (by omega)).1 ⟨h1, h2⟩
      exact (depths_in hp hb (Pw1.roomOf c t) (z := z) (by omega) (by omega)).2 ⟨by omega, by omega⟩
    have k1 := key _ (Int.le_refl _) d2
    have k2 := key _ d2 (Int.le_refl _)
    rcases depths_or hrc with ⟨c1, c2, _⟩ | ⟨_, _, c3⟩
    · rw [d1, c2]; exact ⟨c1, k1.1, k2.2⟩
    · omega
  · rw [d1] at h0; cases h0
theorem Less.hurts {c x : Cd} (h : Less c x) {t : Tr} (hx : openM x [t] = 0) (hc : openM c [t] = 0) (h0 : (hurtsX x t).2.2 = 0) : (hurtsX c t).2.2 = 0 := by
  rcases hurts_ok hx with ⟨_, _, _, z⟩ | ⟨z, _⟩
  · rcases hurts_ok hc with ⟨z2, _⟩ | ⟨_, _, _, z2⟩
    · exact z2
    · rw [h.fit z] at z2; cases z2
  · omega
theorem less_prism {c : Cd} (h : c.Ok) (n : Nat) : Less c { c with prism := max 0 (c.prism - n) } := by
  obtain ⟨h1, h2, h3, h4, h5, h6, h7, h8, h9, h10, h11, h12, h13, h14, h15, h16, h17⟩ := h
  refine ⟨rfl, rfl, rfl, Int.le_refl _, Int.le_refl _, Int.le_refl _, ?_, Int.le_refl _, Int.le_refl _, Int.le_refl _, ⟨h1, h2, h3, h4, h5, h6, h7, h8, h9, ?_, ?_, h12, h13, h14, h15, h16, h17⟩⟩ <;> simp only <;> omega
theorem less_squeeze {c : Cd} (h : c.Ok) (n : Nat) : Less c { c with squeeze := max 0 (c.squeeze - n) } := by
  obtain ⟨h1, h2, h3, h4, h5, h6, h7, h8, h9, h10, h11, h12, h13, h14, h15, h16, h17⟩ := h
  refine ⟨rfl, rfl, rfl, Int.le_refl _, Int.le_refl _, Int.le_refl _, Int.le_refl _, ?_, Int.le_refl _, Int.le_refl _, ⟨h1, h2, h3, h4, h5, h6, h7, h8, h9, h10, h11, ?_, ?_, h14, h15, h16, h17⟩⟩ <;> simp only <;> omega
theorem less_front {c : Cd} (h : c.Ok) (n : Nat) : Less c { c with front := max 0 (c.front - n) } := by
  obtain ⟨h1, h2, h3, h4, h5, h6, h7, h8, h9, h10, h11, h12, h13, h14, h15, h16, h17⟩ := h
  refine ⟨rfl, rfl, rfl, Int.le_refl _, Int.le_refl _, Int.le_refl _, Int.le_refl _, Int.le_refl _, ?_, Int.le_refl _, ⟨h1, h2, h3, h4, h5, h6, h7, h8, h9, h10, h11, h12, h13, ?_, ?_, h16, h17⟩⟩ <;> simp only <;> omega
theorem less_deep {c : Cd} (h : c.Ok) (n : Nat) : Less c { c with deep := max 0 (c.deep - n) } := by
  obtain ⟨h1, h2, h3, h4, h5, h6, h7, h8, h9, h10, h11, h12, h13, h14, h15, h16, h17⟩ := h
  refine ⟨rfl, rfl, rfl, Int.le_refl _, Int.le_refl _, Int.le_refl _, Int.le_refl _, Int.le_refl _, Int.le_refl _, ?_, ⟨h1, h2, h3, h4, h5, h6, h7, h8, h9, h10, h11, h12, h13, h14, h15, ?_, ?_⟩⟩ <;> simp only <;> omega
theorem less_eyes {c : Cd} (h : c.Ok) (n m : Nat) : Less c { c with eyes := ⟨max 1 (c.eyes.lo - n), min 10000 (c.eyes.hi + m)⟩ } := by
  obtain ⟨h1, h2, h3, h4, h5, h6, h7, h8, h9, h10, h11, h12, h13, h14, h15, h16, h17⟩ := h
  refine ⟨rfl, rfl, rfl, Int.le_refl _, ?_, ?_, Int.le_refl _, Int.le_refl _, Int.le_refl _, Int.le_refl _, ⟨h1, h2, h3, h4, h5, h6, ?_, ?_, ?_, h10, h11, h12, h13, h14, h15, h16, h17⟩⟩ <;> simp only <;> omega
theorem less_cuts {c : Cd} (h : c.Ok) (n : Nat) : Less c { c with cuts := max 0 (c.cuts - n) } := by
  obtain ⟨h1, h2, h3, h4, h5, h6, h7, h8, h9, h10, h11, h12, h13, h14, h15, h16, h17⟩ := h
  refine ⟨rfl, rfl, rfl, ?_, Int.le_refl _, Int.le_refl _, Int.le_refl _, Int.le_refl _, Int.le_refl _, Int.le_refl _, ⟨h1, h2, h3, h4, ?_, ?_, h7, h8, h9, h10, h11, h12, h13, h14, h15, h16, h17⟩⟩ <;> simp only <;> omega
theorem trim_okT {c : Cd} (h : cardR c = true) : (trimX c).1.Ok c.cuts := by
  obtain ⟨hc, _, _, _⟩ := card_open h
  have k1 := hc.c1
  have hz : Tr.Ok ⟨0, 0, 0, 0⟩ c.cuts := ⟨Int.le_refl _, k1, Int.le_refl _, k1, Int.le_refl _, k1, Int.le_refl _, k1⟩
  unfold trimX
  split
  · cases hb : bestM c with
    | none => exact hz
    | some u => exact (trIs_ok (best_is hc hb).1).1
  · exact hz
theorem trOk_le {t : Tr} {a b : Int} (h : t.Ok a) (hab : a ≤ b) : t.Ok b := by
  obtain ⟨h1, h2, h3, h4, h5, h6, h7, h8⟩ := h
  exact ⟨h1, by omega, h3, by omega, h5, by omega, h7, by omega⟩
end Go.Pw1
