/- Layer 3: trimmings, rooms, eyes, in plain terms. -/
import Derived.Test.YthoheicppmbepaaGreatMs
set_option linter.unusedSimpArgs false
set_option linter.unusedVariables false
namespace Go.Pw1
open Go Go.Eng
/-! ## All trimmings, those with fewer steps first -/
def oneLo (c : Cd) (one : Int) : Int := max 0 (one - c.cuts)
def oneHi (c : Cd) (one : Int) : Int := min one c.cuts
/-- The whole numbers from one on, so many. -/
def fromZ (lo : Int) : Nat → List Int
  | 0 => []
  | n + 1 => fromZ lo n ++ [lo + n]
theorem fromZ_len (lo : Int) : ∀ n, (fromZ lo n).length = n
  | 0 => rfl
  | n + 1 => by simp [fromZ, fromZ_len lo n]
theorem fromZ_mem {lo a : Int} : ∀ {n : Nat}, a ∈ fromZ lo n ↔ lo ≤ a ∧ a < lo + n
  | 0 => by simp only [fromZ, List.not_mem_nil, false_iff]; omega
  | n + 1 => by
    simp only [fromZ, List.mem_append, List.mem_singleton, fromZ_mem (n := n)]
    omega
def oneN (c : Cd) (one : Int) : Nat := (oneHi c one + 1 - oneLo c one).toNat
def trD (one a : Int) (l : List Int) : List Tr := l.map fun d => ⟨a, one - a, d, one - d⟩
def trA (c : Cd) (one : Int) (l : List Int) : List Tr := l.flatMap fun a => trD one a (fromZ (oneLo c one) (oneN c one))
def trO (c : Cd) (l : List Int) : List Tr := l.flatMap fun one => trA c one (fromZ (oneLo c one) (oneN c one))
def trimsM (c : Cd) : List Tr := trO c (fromZ 0 (2 * c.cuts + 1).toNat)
theorem trD_snoc (one a d : Int) (l : List Int) : trD one a (l ++ [d]) = trD one a l ++ [⟨a, one - a, d, one - d⟩] := by simp [trD]
theorem trA_snoc (c : Cd) (one a : Int) (l : List Int) : trA c one (l ++ [a]) = trA c one l ++ trD one a (fromZ (oneLo c one) (oneN c one)) := by simp [trA]
theorem trO_snoc (c : Cd) (one : Int) (l : List Int) : trO c (l ++ [one]) = trO c l ++ trA c one (fromZ (oneLo c one) (oneN c one)) := by simp [trO]
/-- What of them there is: just the trimmings. -/
theorem trims_mem {c : Cd} (hc : c.Ok) {t : Tr} : t ∈ trimsM c ↔ trIs c t = true := by
  have c1 := hc.c1
  simp only [trimsM, trO, trA, trD, List.mem_flatMap, List.mem_map, fromZ_mem, oneN, oneLo, oneHi, trIs, badT, within, List.any_cons, List.any_nil, Bool.or_false, Bool.and_eq_true, Bool.not_eq_true', Bool.or_eq_false_iff, Bool.not_eq_false', decide_eq_true_eq]
  constructor
  · rintro ⟨one, h1, a, h2, d, h3, rfl⟩
    simp only
    omega
  · rintro ⟨h1, h2⟩
    exact ⟨t.ll + t.lr, by omega, t.ll, by omega, t.rl, by omega, by cases t; simp only at h1 h2 ⊢; congr 1 <;> omega⟩
/-! ## Which comes before -/
def sumT (t : Tr) : Int := t.ll + t.lr + t.rl + t.rr
def lexT (a b : Tr) : Prop := a.ll < b.ll ∨ (a.ll = b.ll ∧ (a.lr < b.lr ∨ (a.lr = b.lr ∧ (a.rl < b.rl ∨ (a.rl = b.rl ∧ a.rr < b.rr)))))
instance (a b : Tr) : Decidable (lexT a b) := by unfold lexT; infer_instance
def befT (a b : Tr) : Prop := sumT a < sumT b ∨ (sumT a = sumT b ∧ lexT a b)
instance (a b : Tr) : Decidable (befT a b) := by unfold befT; infer_instance
theorem fromZ_pw (lo : Int) : ∀ n, (fromZ lo n).Pairwise (· < ·)
  | 0 => List.Pairwise.nil
  | n + 1 => by
    simp only [fromZ]
    refine List.pairwise_append.2 ⟨fromZ_pw lo n, List.pairwise_singleton _ _, fun a ha b hb => ?_⟩
    have := fromZ_mem.1 ha
    cases List.mem_singleton.1 hb
    omega
theorem trD_pw (one a : Int) {l : List Int} (h : l.Pairwise (· < ·)) : (trD one a l).Pairwise befT := by
  unfold trD
  refine List.pairwise_map.2 (h.imp fun {x y} hxy => ?_)
  right
  refine ⟨by simp only [sumT]; omega, .inr ⟨rfl, .inr ⟨rfl, .inl hxy⟩⟩⟩
theorem flat_pw {α β : Type} {R : α → α → Prop} {S : β → β → Prop} {f : α → List β} : ∀ {l : List α}, l.Pairwise R → (∀ a ∈ l, (f a).Pairwise S) → (∀ a b, R a b → ∀ x ∈ f a, ∀ y ∈ f b, S x y) → (l.flatMap f).Pairwise S
  | [], _, _, _ => by simp
  | a :: l, h, h1, h2 => by
    cases h with
    | cons ha hl =>
      rw [List.flatMap_cons]
      refine List.pairwise_append.2 ⟨h1 a (by simp), flat_pw hl (fun b hb => h1 b (List.mem_cons_of_mem _ hb)) h2, fun x hx y hy => ?_⟩
      obtain ⟨b, hb, hy⟩ := List.mem_flatMap.1 hy
      exact h2 a b (ha b hb) x hx y hy
theorem trims_pw (c : Cd) : (trimsM c).Pairwise befT := by
  refine flat_pw (fromZ_pw _ _) (fun one _ => flat_pw (fromZ_pw _ _) (fun a _ => trD_pw one a (fromZ_pw _ _)) fun a b hab x hx y hy => ?_) fun a b hab x hx y hy => ?_
  · obtain ⟨d, _, rfl⟩ := List.mem_map.1 hx
    obtain ⟨e, _, rfl⟩ := List.mem_map.1 hy
    simp only [befT, sumT, lexT]
    omega
  · obtain ⟨a1, _, hx⟩ := List.mem_flatMap.1 hx
    obtain ⟨b1, _, hy⟩ := List.mem_flatMap.1 hy
    obtain ⟨d, _, rfl⟩ := List.mem_map.1 hx
    obtain ⟨e, _, rfl⟩ := List.mem_map.1 hy
    simp only [befT, sumT, lexT]
    omega
/-- The first one with which nothing hurts. -/
def fitT (c : Cd) (t : Tr) : Bool := decide ((hurtM c t).2 = 0)
def bestM (c : Cd) : Option Tr := (trimsM c).find? (fitT c)
def trimX (c : Cd) : Tr × Int := if openM c [] = 0 then (match bestM c with | some t => (t, 0) | none => (⟨0, 0, 0, 0⟩, 11)) else (⟨0, 0, 0, 0⟩, openM c [])
/-! ## Two things that are too far apart -/
def wideR (p : Pr) (most i : Int) : List Int → Option Int
  | [] => none
  | k :: l => if most < (shiftX p i).1.2 - (shiftX p k).1.1 then some k else wideR p most i l
def wideL (p : Pr) (most : Int) (all : List Int) : List Int → Option (Int × Int)
  | [] => none
  | i :: l => match wideR p most i all with | some k => some (i, k) | none => wideL p most all l
def wideM (p : Pr) (most : Int) : Option (Int × Int) := wideL p most (seenN p) (seenN p)
def wideV (o : Option (Int × Int)) : Value := .tuple #[.int .i64 (o.getD (0, 0)).1, .int .i64 (o.getD (0, 0)).2, .bool o.isSome]
def whyC (c : Cd) : Int × Int × Int × Int :=
  if openM c [] = 0 then
    match bestM c with
    | some _ => (0, 0, 0, 0)
    | none =>
      match wideM c.p (c.eyes.lo + c.prism + c.squeeze - c.eyes.hi) with
      | some x => (1, x.1, x.2, 11)
      | none => match wideM c.p (c.front + c.deep) with | some x => (2, x.1, x.2, 11) | none => (3, 0, 0, 11)
  else (0, 0, 0, openM c [])
theorem wideR_none {p : Pr} {most i : Int} : ∀ {l : List Int}, (∀ k ∈ l, ¬ most < (shiftX p i).1.2 - (shiftX p k).1.1) → wideR p most i l = none
  | [], _ => rfl
  | k :: l, h => by simp only [wideR]; rw [if_neg (h k (by simp)), wideR_none (fun j hj => h j (List.mem_cons_of_mem _ hj))]
theorem wideR_hit {p : Pr} {most i : Int} : ∀ {l : List Int} {k : Nat} (hk : k < l.length), (∀ j (h : j < k), ¬ most < (shiftX p i).1.2 - (shiftX p l[j]).1.1) → most < (shiftX p i).1.2 - (shiftX p l[k]).1.1 → wideR p most i l = some l[k]
  | x :: l, 0, _, _, h => by simp only [List.getElem_cons_zero] at h ⊢; simp [wideR, h]
  | x :: l, k + 1, hk, h1, h2 => by
    have h0 := h1 0 (by omega)
    simp only [List.getElem_cons_zero] at h0
    simp only [wideR, h0, if_false, List.getElem_cons_succ] at h2 ⊢
    exact wideR_hit (by simpa using hk) (fun j h => by simpa using h1 (j + 1) (by omega)) h2
theorem wideL_none {p : Pr} {most : Int} {all : List Int} : ∀ {l : List Int}, (∀ i ∈ l, wideR p most i all = none) → wideL p most all l = none
  | [], _ => rfl
  | k :: l, h => by simp only [wideL]; rw [h k (by simp)]; exact wideL_none (fun j hj => h j (List.mem_cons_of_mem _ hj))
theorem wideL_hit {p : Pr} {most k0 : Int} {all : List Int} : ∀ {l : List Int} {k : Nat} (hk : k < l.length), (∀ j (h : j < k), wideR p most l[j] all = none) → wideR p most l[k] all = some k0 → wideL p most all l = some (l[k], k0)
  | x :: l, 0, _, _, h => by simp only [List.getElem_cons_zero] at h ⊢; simp [wideL, h]
  | x :: l, k + 1, hk, h1, h2 => by
    have h0 := h1 0 (by omega)
    simp only [List.getElem_cons_zero] at h0
    simp only [wideL, h0, List.getElem_cons_succ] at h2 ⊢
    exact wideL_hit (by simpa using hk) (fun j h => by simpa using h1 (j + 1) (by omega)) h2
/-! ## Eyes, room, depths -/
def eyeB (c : Cd) (t : Tr) (s : Int × Int) : Int × Int := (apartM c t - s.1 - c.prism, apartM c t - s.2 + c.squeeze)
def eyesOf (c : Cd) (t : Tr) : Int × Int := narL (1, 10000) ((seenM c.p).map fun e => eyeB c t e.2)
def eyesX (c : Cd) (t : Tr) : (Int × Int) × Int := if openM c [t] = 0 then (if (eyesOf c t).2 < (eyesOf c t).1 then ((0, 0), 4) else (eyesOf c t, 0)) else ((0, 0), openM c [t])
def roomOf (c : Cd) (t : Tr) : Int × Int := nar (nar (0, 2000) (windowM c t - c.deep, windowM c t + c.front)) (apartM c t - c.eyes.lo - c.prism, apartM c t - c.eyes.hi + c.squeeze)
def roomX (c : Cd) (t : Tr) : (Int × Int) × Int := if openM c [t] = 0 then (if (roomOf c t).2 < (roomOf c t).1 then ((0, 0), 4) else (roomOf c t, 0)) else ((0, 0), openM c [t])
/-- The least number below n of which f is true, or n. -/
def leastN (f : Nat → Bool) : Nat → Nat
  | 0 => 0
  | n + 1 => if leastN f n < n then leastN f n else if f n then n else n + 1
theorem leastN_le (f : Nat → Bool) : ∀ n, leastN f n ≤ n
  | 0 => Nat.le_refl _
  | n + 1 => by have := leastN_le f n; unfold leastN; split <;> (try split) <;> omega
theorem leastN_not (f : Nat → Bool) : ∀ n j, j < leastN f n → f j = false
  | 0, j, h => by simp [leastN] at h
  | n + 1, j, h => by
    unfold leastN at h
    have hl := leastN_le f n
    split at h
    · exact leastN_not f n j h
    · have hn : leastN f n = n := by omega
      split at h
      · exact leastN_not f n j (by omega)
      · rcases Nat.lt_or_ge j n with h2 | h2
        · exact leastN_not f n j (by omega)
        · have : j = n := by omega
          subst this
          simp_all
theorem leastN_is (f : Nat → Bool) : ∀ n, leastN f n < n → f (leastN f n) = true
  | 0, h => by simp at h
  | n + 1, h => by
    have h0 : leastN f (n + 1) = if leastN f n < n then leastN f n else if f n then n else n + 1 := rfl
    rw [h0] at h ⊢
    have hl := leastN_le f n
    split
    · rename_i h2; exact leastN_is f n h2
    · split
      · assumption
      · rename_i h2 h3; rw [if_neg h2, if_neg h3] at h; omega
/-- Whatever has these two is it. -/
theorem leastN_eq {f : Nat → Bool} {n m : Nat} (hm : m ≤ n) (h1 : ∀ j, j < m → f j = false) (h2 : m < n → f m = true) : leastN f n = m := by
  rcases Nat.lt_trichotomy (leastN f n) m with h | h | h
  · have := leastN_is f n (by omega); rw [h1 _ h] at this; cases this
  · exact h
  · have h3 := leastN_not f n m h
    have := leastN_le f n
    rw [h2 (by omega)] at h3; cases h3
def standsAt (p : Pr) (z : Int) : Int × Int := (standsX p z).1
def depthsOf (c : Cd) (r : Int × Int) : Int × Int :=
  let n := (c.p.far - c.p.near + 1).toNat
  (c.p.near + leastN (fun i => decide ((standsAt c.p (c.p.near + i)).2 ≤ r.2)) n, c.p.near + leastN (fun i => decide ((standsAt c.p (c.p.near + i)).1 < r.1)) n - 1)
def depthsX (c : Cd) (t : Tr) : (Int × Int) × Int := if (roomX c t).2 = 0 then (if (depthsOf c (roomX c t).1).2 < (depthsOf c (roomX c t).1).1 then ((0, 0), 4) else (depthsOf c (roomX c t).1, 0)) else ((0, 0), (roomX c t).2)
def hurtsX (c : Cd) (t : Tr) : Int × Int × Int := if openM c [t] = 0 then (if (hurtM c t).2 = 0 then (0, 0, 0) else ((hurtM c t).1, (hurtM c t).2, 11)) else (0, 0, openM c [t])
/-- A set of numbers, by bits. -/
def bitsOf : List Int → Nat
  | [] => 0
  | i :: l => bitsOf l ||| 2 ^ i.toNat
def seenX (c : Cd) : Int × Int := if openM c [] = 0 then ((bitsOf (seenN c.p) : Int), 0) else (0, openM c [])
end Go.Pw1
