/- Layer 3, plain facts for MountTurned: a card in a mirror. -/
import Derived.Test.YthoheicppmbepaaMA
set_option linter.unusedSimpArgs false
set_option linter.unusedVariables false
namespace Go.Pw1
open Go Go.Eng
def mirS (s : Sp) : Sp := ⟨-s.hi, -s.lo⟩
def mirT (t : Th) : Th := ⟨mirS t.rx, t.ry, mirS t.lx, t.ly, t.far⟩
def mirP (p : Pr) : Pr := { p with things := p.things.map mirT }
def mirC (c : Cd) : Cd := { c with p := mirP c.p }
def mirU (t : Tr) : Tr := ⟨t.rr, t.rl, t.lr, t.ll⟩
theorem mirU_U (t : Tr) : mirU (mirU t) = t := rfl
theorem mir_shift (t : Th) : shift (mirT t) = shift t := by
  simp only [shift, mirT, mirS]
  refine Prod.ext ?_ ?_ <;> simp only <;> omega
theorem mir_level (p : Pr) (t : Th) : levelS (mirP p) (mirT t) = levelS p t := by
  unfold levelS isB nar
  refine decide_eq_decide.2 ?_
  simp only [mirT, mirP]
  omega
theorem mir_powers (p : Pr) (t : Th) : powersR (mirP p) (mirT t) = powersR p t := by
  have h1 : shownS (mirT t) = shownS t := by unfold shownS; rw [mir_shift]
  unfold powersR powersS
  rw [h1, mir_level]
  rfl
theorem mir_allL (p : Pr) : ∀ (l : List Th) (w : Int × Int), allL (mirP p) w (l.map mirT) = allL p w l
  | [], w => rfl
  | t :: l, w => by
    have h3 : (mirT t).far = t.far := rfl
    simp only [List.map_cons, allL, h3, mir_powers]
    split <;> exact mir_allL p l _
theorem mir_all (p : Pr) : allS (mirP p) = allS p := mir_allL p _ _
theorem mir_len (p : Pr) : (mirP p).things.length = p.things.length := by simp [mirP]
theorem mir_at (p : Pr) (n : Int) : thingAt (mirP p) n = mirT (thingAt p n) := by
  unfold thingAt mirP
  simp only [List.getD_eq_getElem?_getD, List.getElem?_map]
  cases p.things[n.toNat]? <;> rfl
theorem mir_bad (p : Pr) (t : Th) : bad (mirP p) (mirT t) = bad p t := by
  have e : ∀ s : Sp, isSpan (mirS s) (-4000) 4000 = isSpan s (-4000) 4000 := fun s => by
    unfold isSpan
    refine Bool.eq_iff_iff.2 ?_
    have e1 : (mirS s).lo = -s.hi := rfl
    have e2 : (mirS s).hi = -s.lo := rfl
    simp only [Bool.and_eq_true, decide_eq_true_eq]
    rw [e1, e2]
    constructor
    · rintro ⟨⟨h1, h2⟩, h3⟩; exact ⟨⟨by omega, by omega⟩, by omega⟩
    · rintro ⟨⟨h1, h2⟩, h3⟩; exact ⟨⟨by omega, by omega⟩, by omega⟩
  simp only [bad, isPlace, mirT, mirP, e]
  rw [Bool.or_comm (!(isSpan t.rx (-4000) 4000 && isSpan t.ry (-4000) 4000))]
  rfl
theorem mir_pair (p : Pr) : isPair (mirP p) = isPair p := by
  unfold isPair
  have h1 : (mirP p).things.any (bad (mirP p)) = p.things.any (bad p) := by
    simp only [mirP, List.any_map]
    congr 1
    funext t
    exact mir_bad p t
  rw [h1, mir_len]
  rfl
theorem mir_power (p : Pr) : powerX (mirP p) = powerX p := by
  rw [power_same, power_same]
  unfold powerR openR
  rw [mir_pair, mir_all]
theorem mir_thing (p : Pr) (n : Int) : thingR (mirP p) n = thingR p n := by unfold thingR; rw [mir_len]
theorem mir_why (p : Pr) (n : Int) : whyX (mirP p) n = whyX p n := by
  rw [why_same, why_same]
  unfold whyR openR
  rw [mir_pair, mir_all, mir_thing]
  simp only [mir_at, mir_powers, mir_level, mir_shift]
  rfl
theorem mir_shiftX (p : Pr) (n : Int) : shiftX (mirP p) n = shiftX p n := by
  rw [shift_same, shift_same]
  unfold shiftR
  rw [mir_pair, mir_thing, mir_at, mir_shift]
theorem mir_stands (p : Pr) (z : Int) : standsX (mirP p) z = standsX p z := by
  rw [stands_same, stands_same]
  unfold standsR openR
  rw [mir_pair, mir_all]
  rfl
theorem mir_seenK (p : Pr) : ∀ k, seenK (mirP p) k = seenK p k
  | 0 => rfl
  | k + 1 => by
    unfold seenK
    rw [mir_seenK p k, mir_why, mir_shiftX]
theorem mir_seenM (p : Pr) : seenM (mirP p) = seenM p := by unfold seenM; rw [mir_seenK, mir_len]
theorem mir_seenN (p : Pr) : seenN (mirP p) = seenN p := by unfold seenN; rw [mir_seenM]
theorem mir_card (c : Cd) : cardIs (mirC c) = cardIs c := by
  unfold cardIs sizesM eyesM
  simp only [mirC, mir_power]
  rfl
theorem trIs_iff {c : Cd} {t : Tr} : trIs c t = true ↔ ((0 ≤ t.ll ∧ t.ll ≤ c.cuts) ∧ (0 ≤ t.lr ∧ t.lr ≤ c.cuts) ∧ (0 ≤ t.rl ∧ t.rl ≤ c.cuts) ∧ 0 ≤ t.rr ∧ t.rr ≤ c.cuts) ∧ t.ll + t.lr = t.rl + t.rr := by
  simp only [trIs, badT, within, List.any_cons, List.any_nil, Bool.or_false, Bool.and_eq_true, Bool.not_eq_true', Bool.or_eq_false_iff, Bool.not_eq_false', decide_eq_true_eq]
theorem mir_trIs (c : Cd) (t : Tr) : trIs (mirC c) (mirU t) = trIs c t := by
  refine Bool.eq_iff_iff.2 ?_
  rw [trIs_iff, trIs_iff]
  show ((0 ≤ t.rr ∧ t.rr ≤ c.cuts) ∧ (0 ≤ t.rl ∧ t.rl ≤ c.cuts) ∧ (0 ≤ t.lr ∧ t.lr ≤ c.cuts) ∧ 0 ≤ t.ll ∧ t.ll ≤ c.cuts) ∧ t.rr + t.rl = t.lr + t.ll ↔ _
  omega
theorem mir_open0 (c : Cd) : openM (mirC c) [] = openM c [] := by
  unfold openM
  rw [mir_card]
  simp only [mirC, mir_power]
  rfl
theorem mir_open1 (c : Cd) (t : Tr) : openM (mirC c) [mirU t] = openM c [t] := by
  unfold openM
  rw [mir_card]
  simp only [List.all_cons, List.all_nil, mir_trIs]
  simp only [mirC, mir_power]
  rfl
theorem mir_window {c : Cd} {t : Tr} (h : t.ll + t.lr = t.rl + t.rr) : windowM (mirC c) (mirU t) = windowM c t := by
  unfold windowM mirC mirU
  simp only
  congr 1
  omega
theorem mir_apart (c : Cd) (t : Tr) : apartM (mirC c) (mirU t) = apartM c t := by
  unfold apartM mirC mirU
  simp only
  rw [Int.add_comm t.rl t.lr]
theorem mir_off (c : Cd) (t : Tr) (x : Th) : offM (mirC c) (mirU t) (mirT x) = offM c t x := by
  refine Bool.eq_iff_iff.2 ?_
  simp only [offM, Bool.or_eq_true, decide_eq_true_eq]
  show ((-x.rx.hi < c.step * t.rr - c.half ∨ c.half - c.step * t.rl < -x.rx.lo) ∨ -x.lx.hi < c.step * t.lr - c.half ∨ c.half - c.step * t.ll < -x.lx.lo) ↔ _
  omega
theorem mir_whyM {c : Cd} {t : Tr} (h : t.ll + t.lr = t.rl + t.rr) (i : Int) : whyM (mirC c) (mirU t) i = whyM c t i := by
  unfold whyM hurtL
  rw [mir_window h, mir_apart]
  have e1 : shiftX (mirC c).p i = shiftX c.p i := mir_shiftX c.p i
  have e2 : thingAt (mirC c).p i = mirT (thingAt c.p i) := mir_at c.p i
  rw [e1, e2, mir_off]
  rfl
theorem mir_hurtF {c : Cd} {t : Tr} (h : t.ll + t.lr = t.rl + t.rr) : ∀ l, hurtF (mirC c) (mirU t) l = hurtF c t l
  | [] => rfl
  | i :: l => by unfold hurtF; rw [mir_whyM h, mir_hurtF h l]
theorem mir_hurtM {c : Cd} {t : Tr} (h : t.ll + t.lr = t.rl + t.rr) : hurtM (mirC c) (mirU t) = hurtM c t := by
  unfold hurtM
  rw [mir_hurtF h]
  exact congrArg _ (mir_seenN c.p)
theorem open1_bal {c : Cd} {t : Tr} (h : openM c [t] = 0) : t.ll + t.lr = t.rl + t.rr := by
  obtain ⟨_, h2, _⟩ := openM_ok h
  simp only [List.all_cons, List.all_nil, Bool.and_true] at h2
  exact (trIs_ok h2).2
theorem mir_hurts (c : Cd) (t : Tr) : hurtsX (mirC c) (mirU t) = hurtsX c t := by
  unfold hurtsX
  rw [mir_open1]
  split
  · rename_i h; rw [mir_hurtM (open1_bal h)]
  · rfl
theorem mir_seen (c : Cd) : seenX (mirC c) = seenX c := by
  unfold seenX
  rw [mir_open0]
  split
  · exact congrArg (fun l => ((bitsOf l : Int), (0 : Int))) (mir_seenN c.p)
  · rfl
theorem mir_eyesOf (c : Cd) (t : Tr) : eyesOf (mirC c) (mirU t) = eyesOf c t := by
  unfold eyesOf
  have e : seenM (mirC c).p = seenM c.p := mir_seenM c.p
  rw [e]
  congr 1
  refine List.map_congr_left fun x _ => ?_
  unfold eyeB
  rw [mir_apart]
  rfl
theorem mir_eyes (c : Cd) (t : Tr) : eyesX (mirC c) (mirU t) = eyesX c t := by
  unfold eyesX
  rw [mir_open1, mir_eyesOf]
theorem mir_roomOf {c : Cd} {t : Tr} (h : t.ll + t.lr = t.rl + t.rr) : roomOf (mirC c) (mirU t) = roomOf c t := by
  unfold roomOf
  rw [mir_window h, mir_apart]
  rfl
theorem mir_room (c : Cd) (t : Tr) : roomX (mirC c) (mirU t) = roomX c t := by
  unfold roomX
  rw [mir_open1]
  split
  · rename_i h; rw [mir_roomOf (open1_bal h)]
  · rfl
theorem mir_depthsOf (c : Cd) (r : Int × Int) : depthsOf (mirC c) r = depthsOf c r := by
  unfold depthsOf standsAt
  simp only [mirC, mir_stands]
  rfl
theorem mir_depths (c : Cd) (t : Tr) : depthsX (mirC c) (mirU t) = depthsX c t := by
  unfold depthsX
  rw [mir_room]
  simp only [mir_depthsOf]
theorem mir_fit {c : Cd} {t : Tr} (h : t.ll + t.lr = t.rl + t.rr) : fitT (mirC c) (mirU t) = fitT c t := by unfold fitT; rw [mir_hurtM h]
theorem mir_sum (t : Tr) : sumT (mirU t) = sumT t := by simp only [sumT, mirU]; omega
theorem mir_ok {c : Cd} (h : c.Ok) : (mirC c).Ok := ⟨h.1, h.2, h.3, h.4, h.5, h.6, h.7, h.8, h.9, h.10, h.11, h.12, h.13, h.14, h.15, h.16, h.17⟩
theorem mir_trim {c : Cd} (h : cardR c = true) : (trimX (mirC c)).2 = (trimX c).2 ∧ sumT (trimX (mirC c)).1 = sumT (trimX c).1 := by
  obtain ⟨hc, _, _, _⟩ := card_open h
  unfold trimX
  rw [mir_open0]
  split
  · cases hb : bestM c with
    | none =>
      cases hb2 : bestM (mirC c) with
      | none => exact ⟨rfl, rfl⟩
      | some u =>
        exfalso
        obtain ⟨u1, u2, _⟩ := best_is (mir_ok hc) hb2
        rw [← mirU_U u, mir_trIs] at u1
        have h3 := (trIs_ok u1).2
        rw [← mirU_U u, mir_fit h3, best_none hc hb u1] at u2
        cases u2
    | some v =>
      obtain ⟨v1, v2, _⟩ := best_is hc hb
      have v3 := (trIs_ok v1).2
      cases hb2 : bestM (mirC c) with
      | none =>
        exfalso
        have := best_none (mir_ok hc) hb2 (v := mirU v) (by rw [mir_trIs]; exact v1)
        rw [mir_fit v3, v2] at this
        cases this
      | some u =>
        obtain ⟨u1, u2, _⟩ := best_is (mir_ok hc) hb2
        rw [← mirU_U u, mir_trIs] at u1
        have h3 := (trIs_ok u1).2
        rw [← mirU_U u, mir_fit h3] at u2
        have s1 := sum_le hc hb u1 u2
        have s2 := sum_le (mir_ok hc) hb2 (v := mirU v) (by rw [mir_trIs]; exact v1) (by rw [mir_fit v3]; exact v2)
        rw [mir_sum] at s1 s2
        exact ⟨rfl, Int.le_antisymm s2 s1⟩
  · exact ⟨rfl, rfl⟩
theorem mir_snoc {α β : Type} {f : α → β} {l : List α} {k : Nat} (hk : k < l.length) {a : α} (ha : l[k] = a) : (l.take k).map f ++ [f a] = (l.take (k + 1)).map f := by
  rw [List.take_succ_eq_append_getElem hk, List.map_append, ha]; rfl
end Go.Pw1
