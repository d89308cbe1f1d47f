/- Layer 3: what the package's functions return, in plain terms. -/
import Derived.Test.YthoheicppmbepaaGreatSpec2
import Derived.Test.YthoheicppmbepaaGreatEngC
set_option linter.unusedSimpArgs false
set_option linter.unusedVariables false
namespace Go.Pw1
open Go Go.Eng
/-- A card, and a trimming. -/
structure Cd where
  p : Pr
  half : Int
  step : Int
  cuts : Int
  eyes : Sp
  prism : Int
  squeeze : Int
  front : Int
  deep : Int
structure Tr where
  ll : Int
  lr : Int
  rl : Int
  rr : Int
  deriving DecidableEq
def Tr.cells (t : Tr) : List Value := [.int .i64 t.ll, .int .i64 t.lr, .int .i64 t.rl, .int .i64 t.rr]
def Tr.v (t : Tr) : Value := .agg #[.int .i64 t.ll, .int .i64 t.lr, .int .i64 t.rl, .int .i64 t.rr]
def Cd.cells (c : Cd) (q : Option Addr) (cap : Nat) : List Value := [.int .i64 c.p.focal.lo, .int .i64 c.p.focal.hi, .int .i64 c.p.base.lo, .int .i64 c.p.base.hi, .int .i64 c.p.tilt, .int .i64 c.p.near, .int .i64 c.p.far, .slice q c.p.things.length cap,
  .int .i64 c.half, .int .i64 c.step, .int .i64 c.cuts, .int .i64 c.eyes.lo, .int .i64 c.eyes.hi, .int .i64 c.prism, .int .i64 c.squeeze, .int .i64 c.front, .int .i64 c.deep]
def Cd.v (c : Cd) (q : Option Addr) (cap : Nat) : Value := .agg (c.cells q cap).toArray
/-- A card that is looked at: with the map of the things that are seen. -/
def cdCells (c : Cd) (q : Option Addr) (cap : Nat) (m : Nat) : List Value := [.int .i64 c.p.focal.lo, .int .i64 c.p.focal.hi, .int .i64 c.p.base.lo, .int .i64 c.p.base.hi, .int .i64 c.p.tilt, .int .i64 c.p.near, .int .i64 c.p.far, .slice q c.p.things.length cap,
  .int .i64 c.half, .int .i64 c.step, .int .i64 c.cuts, .int .i64 c.eyes.lo, .int .i64 c.eyes.hi, .int .i64 c.prism, .int .i64 c.squeeze, .int .i64 c.front, .int .i64 c.deep, .map (some m)]
def mtV (b : Nat) (t : Tr) : Value := .agg #[.pointer (some ⟨b, 0, none⟩), .int .i64 t.ll, .int .i64 t.lr, .int .i64 t.rl, .int .i64 t.rr]
def sizesM (c : Cd) : Bool := within c.half 1 4000 && within c.step 1 100 && within c.cuts 0 40
def eyesM (c : Cd) : Bool := decide (1 ≤ c.eyes.lo) && decide (c.eyes.lo ≤ c.eyes.hi) && decide (c.eyes.hi ≤ 10000)
def badM (n : Int) : Bool := !within n 0 10000
def cardIs (c : Cd) : Bool := !decide ((powerX c.p).2 = 1) && (sizesM c && eyesM c) && ![c.prism, c.squeeze, c.front, c.deep].any badM
structure Cd.Ok (c : Cd) : Prop where
  h1 : 1 ≤ c.half
  h2 : c.half ≤ 4000
  s1 : 1 ≤ c.step
  s2 : c.step ≤ 100
  c1 : 0 ≤ c.cuts
  c2 : c.cuts ≤ 40
  e1 : 1 ≤ c.eyes.lo
  e2 : c.eyes.lo ≤ c.eyes.hi
  e3 : c.eyes.hi ≤ 10000
  p1 : 0 ≤ c.prism
  p2 : c.prism ≤ 10000
  q1 : 0 ≤ c.squeeze
  q2 : c.squeeze ≤ 10000
  f1 : 0 ≤ c.front
  f2 : c.front ≤ 10000
  d1 : 0 ≤ c.deep
  d2 : c.deep ≤ 10000
theorem sizes_ok {c : Cd} (h1 : sizesM c = true) (h2 : eyesM c = true) (h3 : [c.prism, c.squeeze, c.front, c.deep].any badM = false) : c.Ok := by
  simp only [sizesM, eyesM, badM, within, List.any_cons, List.any_nil, Bool.or_false, Bool.or_eq_false_iff, Bool.and_eq_true, decide_eq_true_eq, Bool.not_eq_false'] at h1 h2 h3
  obtain ⟨⟨⟨_, _⟩, _, _⟩, _, _⟩ := h1
  obtain ⟨⟨_, _⟩, _⟩ := h2
  obtain ⟨⟨_, _⟩, ⟨_, _⟩, ⟨_, _⟩, _, _⟩ := h3
  exact ⟨by assumption, by assumption, by assumption, by assumption, by assumption, by assumption, by assumption, by assumption, by assumption, by assumption, by assumption, by assumption, by assumption, by assumption, by assumption, by assumption, by assumption⟩
theorem cardIs_ok {c : Cd} (h : cardIs c = true) : c.Ok ∧ (powerX c.p).2 ≠ 1 := by
  simp only [cardIs, Bool.and_eq_true, Bool.not_eq_true', decide_eq_false_iff_not] at h
  exact ⟨sizes_ok h.1.2.1 h.1.2.2 h.2, h.1.1⟩
def badT (c : Cd) (n : Int) : Bool := !within n 0 c.cuts
def trIs (c : Cd) (t : Tr) : Bool := ![t.ll, t.lr, t.rl, t.rr].any (badT c) && decide (t.ll + t.lr = t.rl + t.rr)
structure Tr.Ok (t : Tr) (k : Int) : Prop where
  a1 : 0 ≤ t.ll
  a2 : t.ll ≤ k
  b1 : 0 ≤ t.lr
  b2 : t.lr ≤ k
  c1 : 0 ≤ t.rl
  c2 : t.rl ≤ k
  d1 : 0 ≤ t.rr
  d2 : t.rr ≤ k
theorem badT_ok {c : Cd} {t : Tr} (h : [t.ll, t.lr, t.rl, t.rr].any (badT c) = false) : t.Ok c.cuts := by
  simp only [badT, within, List.any_cons, List.any_nil, Bool.or_false, Bool.or_eq_false_iff, Bool.and_eq_true, decide_eq_true_eq, Bool.not_eq_false'] at h
  obtain ⟨⟨_, _⟩, ⟨_, _⟩, ⟨_, _⟩, _, _⟩ := h
  exact ⟨by assumption, by assumption, by assumption, by assumption, by assumption, by assumption, by assumption, by assumption⟩
theorem trIs_ok {c : Cd} {t : Tr} (h : trIs c t = true) : t.Ok c.cuts ∧ t.ll + t.lr = t.rl + t.rr := by
  simp only [trIs, Bool.and_eq_true, Bool.not_eq_true', decide_eq_true_eq] at h
  exact ⟨badT_ok h.1, h.2⟩
/-- A card is opened, with these trimmings: why it can't be. -/
def openM (c : Cd) (l : List Tr) : Int := if cardIs c then (if l.all (trIs c) then (powerX c.p).2 else 2) else 1
theorem openM_ok {c : Cd} {l : List Tr} (h : openM c l = 0) : cardIs c = true ∧ l.all (trIs c) = true ∧ (powerX c.p).2 = 0 := by
  unfold openM at h
  split at h
  · split at h
    · exact ⟨by assumption, by assumption, h⟩
    · simp at h
  · simp at h
/-- The things that are seen, with their shifts. -/
def seenK (p : Pr) : Nat → List (Int × (Int × Int))
  | 0 => []
  | k + 1 => if (whyX p k).1 = 0 then seenK p k ++ [((k : Int), (shiftX p k).1)] else seenK p k
def seenM (p : Pr) : List (Int × (Int × Int)) := seenK p p.things.length
def entsV (l : List (Int × (Int × Int))) : List (Int × Value) := l.map fun e => (e.1, b2v e.2)
def mEnts (p : Pr) : List (Int × Value) := entsV (seenM p)
theorem seenK_yes {p : Pr} {k : Nat} (h : (whyX p k).1 = 0) : seenK p (k + 1) = seenK p k ++ [((k : Int), (shiftX p k).1)] := by simp [seenK, h]
theorem seenK_no {p : Pr} {k : Nat} (h : (whyX p k).1 ≠ 0) : seenK p (k + 1) = seenK p k := by simp [seenK, h]
theorem seenK_lt (p : Pr) : ∀ k, ∀ e ∈ seenK p k, ∃ j : Nat, e = ((j : Int), (shiftX p j).1) ∧ j < k ∧ (whyX p j).1 = 0
  | 0, e, h => by cases h
  | k + 1, e, h => by
    unfold seenK at h
    split at h
    · rename_i hw
      rcases List.mem_append.1 h with h | h
      · obtain ⟨j, h1, h2, h3⟩ := seenK_lt p k e h; exact ⟨j, h1, by omega, h3⟩
      · cases List.mem_singleton.1 h; exact ⟨k, rfl, by omega, hw⟩
    · obtain ⟨j, h1, h2, h3⟩ := seenK_lt p k e h; exact ⟨j, h1, by omega, h3⟩
theorem seenK_in {p : Pr} : ∀ {k j : Nat}, j < k → (whyX p j).1 = 0 → ((j : Int), (shiftX p j).1) ∈ seenK p k
  | k + 1, j, hj, hw => by
    unfold seenK
    rcases Nat.lt_or_ge j k with h | h
    · split
      · exact List.mem_append_left _ (seenK_in h hw)
      · exact seenK_in h hw
    · have : j = k := by omega
      subst this
      rw [if_pos hw]
      simp
/-- Looking a key up. -/
theorem mIdx_none {l : List (Int × Value)} {a : Int} (h : ∀ e ∈ l, e.1 ≠ a) : mIdx l a = none := by
  induction l with
  | nil => rfl
  | cons x l ih =>
    unfold mIdx
    rw [if_neg (h x (by simp)), ih (fun e he => h e (List.mem_cons_of_mem _ he))]
    rfl
theorem mFind_append (l l2 : List (Int × Value)) (a : Int) : mFind (l ++ l2) a = (mFind l a).or (mFind l2 a) := by
  unfold mFind
  induction l with
  | nil => simp [mIdx]
  | cons x l ih =>
    simp only [List.cons_append, mIdx]
    by_cases h : x.1 = a
    · simp [h]
    · simp only [h, if_false, Option.map_map]
      have h2 : ∀ o : Option (Nat × Value), (o.map ((fun x => x.2) ∘ fun p : Nat × Value => (p.1 + 1, p.2))) = o.map (·.2) := fun o => by cases o <;> rfl
      rw [h2, h2, ih]
theorem mFind_K (p : Pr) (j : Nat) : ∀ k, mFind (entsV (seenK p k)) j = if j < k ∧ (whyX p j).1 = 0 then some (b2v (shiftX p j).1) else none
  | 0 => by simp [seenK, entsV, mFind, mIdx]
  | k + 1 => by
    have ih := mFind_K p j k
    unfold seenK
    by_cases hw : (whyX p k).1 = 0
    · rw [if_pos hw, show entsV (seenK p k ++ [((k : Int), (shiftX p k).1)]) = entsV (seenK p k) ++ [((k : Int), b2v (shiftX p k).1)] by simp [entsV], mFind_append, ih]
      rcases Nat.lt_trichotomy j k with h | h | h
      · by_cases hj : (whyX p j).1 = 0
        · simp [h, hj, Nat.lt_succ_of_lt h]
        · have : ¬ (k : Int) = j := by omega
          simp [hj, mFind, mIdx, this]
      · subst h; simp [hw, mFind, mIdx]
      · have : ¬ (k : Int) = j := by omega
        rw [if_neg (by omega), if_neg (by omega)]
        simp [mFind, mIdx, this]
    · rw [if_neg hw, ih]
      by_cases hj : (whyX p j).1 = 0
      · have : j ≠ k := fun e => hw (e ▸ hj)
        by_cases h : j < k
        · simp [h, hj, Nat.lt_succ_of_lt h]
        · rw [if_neg (by omega), if_neg (by omega)]
      · simp [hj]
theorem mFind_M {p : Pr} {j : Nat} (h : j < p.things.length) : mFind (mEnts p) j = if (whyX p j).1 = 0 then some (b2v (shiftX p j).1) else none := by
  unfold mEnts seenM
  rw [mFind_K]
  simp [h]
def seenN (p : Pr) : List Int := (seenM p).map (·.1)
def seenNK (p : Pr) (k : Nat) : List Int := (seenK p k).map (·.1)
theorem seenNK_yes {p : Pr} {k : Nat} (h : (whyX p k).1 = 0) : seenNK p (k + 1) = seenNK p k ++ [(k : Int)] := by simp [seenNK, seenK, h]
theorem seenNK_no {p : Pr} {k : Nat} (h : (whyX p k).1 ≠ 0) : seenNK p (k + 1) = seenNK p k := by simp [seenNK, seenK, h]
theorem seenNK_len (p : Pr) : ∀ k, (seenNK p k).length ≤ k
  | 0 => by simp [seenNK, seenK]
  | k + 1 => by
    have := seenNK_len p k
    by_cases h : (whyX p k).1 = 0
    · rw [seenNK_yes h]; simp; omega
    · rw [seenNK_no h]; omega
theorem seenN_in {p : Pr} {i : Int} (h : i ∈ seenN p) : ∃ j : Nat, i = j ∧ j < p.things.length ∧ (whyX p j).1 = 0 := by
  obtain ⟨e, he, rfl⟩ := List.mem_map.1 h
  obtain ⟨j, rfl, h2, h3⟩ := seenK_lt p _ e he
  exact ⟨j, rfl, h2, h3⟩
/-! ## Why a thing hurts -/
def windowM (c : Cd) (t : Tr) : Int := c.step * (t.ll - t.rl)
def apartM (c : Cd) (t : Tr) : Int := 2 * c.half - c.step * (t.lr + t.rl)
def offM (c : Cd) (t : Tr) (x : Th) : Bool := (decide (x.lx.lo < c.step * t.ll - c.half) || decide (c.half - c.step * t.lr < x.lx.hi)) || (decide (x.rx.lo < c.step * t.rl - c.half) || decide (c.half - c.step * t.rr < x.rx.hi))
def hurtL (c : Cd) (t : Tr) (s : Int × Int) (x : Th) : List Bool := [decide (apartM c t - s.2 < c.eyes.hi - c.squeeze), decide (c.eyes.lo + c.prism < apartM c t - s.1), decide (windowM c t + c.front < s.2), decide (s.1 < windowM c t - c.deep), offM c t x]
def whyM (c : Cd) (t : Tr) (i : Int) : Int := idxF id (hurtL c t (shiftX c.p i).1 (thingAt c.p i)) + 1
theorem whyM_rng (c : Cd) (t : Tr) (i : Int) : 0 ≤ whyM c t i ∧ whyM c t i ≤ 5 := by
  have h1 := idxF_ge id (hurtL c t (shiftX c.p i).1 (thingAt c.p i))
  have h2 := idxF_lt id (hurtL c t (shiftX c.p i).1 (thingAt c.p i))
  have h3 : ((hurtL c t (shiftX c.p i).1 (thingAt c.p i)).length : Int) = 5 := rfl
  unfold whyM
  omega
/-- The first one that hurts, and why. -/
def hurtF (c : Cd) (t : Tr) : List Int → Int × Int
  | [] => (0, 0)
  | i :: l => if whyM c t i = 0 then hurtF c t l else (i, whyM c t i)
def hurtM (c : Cd) (t : Tr) : Int × Int := hurtF c t (seenN c.p)
theorem hurtF_all {c : Cd} {t : Tr} : ∀ {l : List Int}, (∀ i ∈ l, whyM c t i = 0) → hurtF c t l = (0, 0)
  | [], _ => rfl
  | i :: l, h => by simp [hurtF, h i (by simp), hurtF_all (fun j hj => h j (List.mem_cons_of_mem _ hj))]
theorem hurtF_hit {c : Cd} {t : Tr} : ∀ {l : List Int} {k : Nat} (hk : k < l.length), (∀ j (h : j < k), whyM c t l[j] = 0) → whyM c t l[k] ≠ 0 → hurtF c t l = (l[k], whyM c t l[k])
  | i :: l, 0, _, _, h => by simp at h; simp [hurtF, h]
  | i :: l, k + 1, hk, h1, h2 => by
    have h0 := h1 0 (by omega)
    simp only [List.getElem_cons_zero] at h0
    simp only [hurtF, h0, if_true, List.getElem_cons_succ] at h2 ⊢
    exact hurtF_hit (by simpa using hk) (fun j h => by simpa using h1 (j + 1) (by omega)) h2
end Go.Pw1
