/- Layer 5: what the package's functions return, in plain terms. -/
import Derived.Test.YtjijeeadmhpfcaaSpec2
set_option linter.unusedSimpArgs false
set_option linter.unusedVariables false
namespace Go.Pw1
open Go Go.Eng
/-- A glacier, and where its slices lie. -/
structure Gl where
  f : Pr
  s : Pr
  d1 : Int
  d2 : Int
structure Ga where
  q1 : Option Addr
  b1 : Nat
  o1 : Nat
  c1 : Nat
  q2 : Option Addr
  b2 : Nat
  o2 : Nat
  c2 : Nat
def Gl.cells (g : Gl) (a : Ga) : List Value := [.int .i64 g.f.focal.lo, .int .i64 g.f.focal.hi, .int .i64 g.f.base.lo, .int .i64 g.f.base.hi, .int .i64 g.f.tilt, .int .i64 g.f.near, .int .i64 g.f.far, .slice a.q1 g.f.things.length a.c1,
  .int .i64 g.s.focal.lo, .int .i64 g.s.focal.hi, .int .i64 g.s.base.lo, .int .i64 g.s.base.hi, .int .i64 g.s.tilt, .int .i64 g.s.near, .int .i64 g.s.far, .slice a.q2 g.s.things.length a.c2, .int .i64 g.d1, .int .i64 g.d2]
def Gl.v (g : Gl) (a : Ga) : Value := .agg (g.cells a).toArray
structure GIn (w : World) (g : Gl) (a : Ga) : Prop where
  s1 : Sl w a.q1 a.b1 a.o1 9 (g.f.things.map Th.cells)
  s2 : Sl w a.q2 a.b2 a.o2 9 (g.s.things.map Th.cells)
  l1 : g.f.things.length ≤ 100000000000
  l2 : g.s.things.length ≤ 100000000000
theorem GIn.mono {W w : World} {g : Gl} {a : Ga} {news : Blks} (h : GIn W g a) (hm : Mem W [] news w) : GIn w g a := ⟨h.s1.mono (by decide) hm (by simp), h.s2.mono (by decide) hm (by simp), h.l1, h.l2⟩
abbrev Z2 := (Int × Int) × (Int × Int)
def z2c (z : Z2) : List Value := [.int .i64 z.1.1, .int .i64 z.1.2, .int .i64 z.2.1, .int .i64 z.2.2]
def z2v (z : Z2) : Value := .agg (z2c z).toArray
def fitG (g : Gl) : Bool := decide ((g.f.things.length : Int) = (g.s.things.length : Int)) && within g.d1 0 65536 && within g.d2 0 65536 && decide (g.d1 < g.d2)
def openG (g : Gl) (valid : Bool) : Except Int Unit :=
  if fitG g && !decide ((powerX g.f).2 = 1) && !decide ((powerX g.s).2 = 1) then
    if valid then if (powerX g.f).2 = 0 then if (powerX g.s).2 = 0 then .ok () else .error (powerX g.s).2 else .error (powerX g.f).2
    else .error 2
  else .error 1
def isThingG (g : Gl) (n : Int) : Bool := within n 0 (g.f.things.length - 1)
def farG (g : Gl) (n : Int) : Z2 := ((distX g.f n).1, (distX g.s n).1)
def seenG (g : Gl) (n : Int) : Bool := decide ((distX g.f n).2 = 0) && decide ((distX g.s n).2 = 0)
def lessZ (a b : Int × Int) : Int × Int := (a.1 - b.2, a.2 - b.1)
def movedZ (z : Z2) : Int × Int := lessZ z.2 z.1
/-- Rounded toward 0, and one less if something is left below 0: rounded down. -/
theorem div_unique {b q r q' r' : Int} (hb : 0 < b) (h : b * q + r = b * q' + r') (h1 : -b < r - r') (h2 : r - r' < b) : q = q' := by
  have h7 : b * (q - q') = r' - r := by rw [Int.mul_sub]; omega
  rcases Int.lt_trichotomy (q - q') 0 with h8 | h8 | h8
  · have := Int.mul_le_mul_of_nonneg_left (show q - q' ≤ -1 by omega) (show 0 ≤ b by omega)
    omega
  · omega
  · have := Int.mul_le_mul_of_nonneg_left (show 1 ≤ q - q' by omega) (show 0 ≤ b by omega)
    omega
theorem down_eq {a b : Int} (hb : 0 < b) : (if a.tmod b < 0 then a.tdiv b - 1 else a.tdiv b) = a / b := by
  have h2 := Int.mul_ediv_add_emod a b
  have h3 := Int.emod_nonneg a (show b ≠ 0 by omega)
  have h4 := Int.emod_lt_of_pos a hb
  rcases Int.le_total 0 a with ha | ha
  · rw [Int.tmod_eq_emod_of_nonneg ha, Int.tdiv_eq_ediv_of_nonneg ha, if_neg (by omega)]
  · obtain ⟨c, rfl⟩ : ∃ c, a = -c := ⟨-a, by omega⟩
    have hc : 0 ≤ c := by omega
    rw [Int.neg_tmod, Int.neg_tdiv, Int.tmod_eq_emod_of_nonneg hc, Int.tdiv_eq_ediv_of_nonneg hc]
    have g2 := Int.mul_ediv_add_emod c b
    have g3 := Int.emod_nonneg c (show b ≠ 0 by omega)
    have g4 := Int.emod_lt_of_pos c hb
    have g5 : b * -(c / b) = -(b * (c / b)) := Int.mul_neg _ _
    split
    · refine div_unique (r := b - c % b) (r' := -c % b) hb ?_ (by omega) (by omega)
      rw [Int.mul_sub, g5]; omega
    · exact div_unique (r := -(c % b)) (r' := -c % b) hb (by rw [g5]; omega) (by omega) (by omega)
/-- How high a thing stood: all ends are tried. -/
def htL (p : Pr) (t : Th) (z : Int × Int) : List Int := [t.ly.lo * z.1 / p.focal.hi, t.ly.lo * z.2 / p.focal.lo, t.ly.lo * z.2 / p.focal.hi, t.ly.hi * z.1 / p.focal.lo, t.ly.hi * z.1 / p.focal.hi, t.ly.hi * z.2 / p.focal.lo, t.ly.hi * z.2 / p.focal.hi]
def minL (x : Int) (l : List Int) : Int := l.foldl min x
def maxL (x : Int) (l : List Int) : Int := l.foldl max x
def htP (p : Pr) (t : Th) (z : Int × Int) : Int × Int := (minL (t.ly.lo * z.1 / p.focal.lo) (htL p t z), maxL (t.ly.lo * z.1 / p.focal.lo) (htL p t z))
def htG (g : Gl) (n : Int) (z : Z2) : Z2 := (htP g.f (thingAt g.f n) z.1, htP g.s (thingAt g.s n) z.2)
def sankZ (g : Gl) (n : Int) (z : Z2) : Int × Int := lessZ (htG g n z).1 (htG g n z).2
/-- What is asked of a thing: why it is not known, or what f says. -/
def askG {α : Type} (g : Gl) (n : Int) (f : Z2 → α) (none : α) : α × Int :=
  match openG g (isThingG g n) with
  | .error k => (none, k)
  | .ok _ => if seenG g n then (f (farG g n), 0) else (none, 11)
def gMoved (g : Gl) (n : Int) : (Int × Int) × Int := askG g n movedZ (0, 0)
def gHeights (g : Gl) (n : Int) : Z2 × Int := askG g n (htG g n) ((0, 0), (0, 0))
def gSank (g : Gl) (n : Int) : (Int × Int) × Int := askG g n (sankZ g n) (0, 0)
def rateZ (g : Gl) (m : Int × Int) : Int × Int := (m.1 * 365 / (g.d2 - g.d1), -(-(m.2 * 365) / (g.d2 - g.d1)))
def gRate (g : Gl) (n : Int) : (Int × Int) × Int := askG g n (fun z => rateZ g (movedZ z)) (0, 0)
/-- How far away a thing is said to be. -/
theorem distX_rng (p : Pr) (n : Int) : 0 ≤ (distX p n).1.1 ∧ (distX p n).1.1 ≤ 1100000000 ∧ 0 ≤ (distX p n).1.2 ∧ (distX p n).1.2 ≤ 1100000000 := by
  unfold distX
  cases h : truthsX p [n] with
  | error k => simp
  | ok w =>
    obtain ⟨hp, hop, w1, w2, w3⟩ := truths_bd h
    obtain ⟨k, rfl, hk⟩ := openX_in hop (List.mem_singleton.2 rfl)
    obtain ⟨t, ht⟩ : ∃ t, p.things[k] = t := ⟨_, rfl⟩
    have hth := hp.ths _ (List.getElem_mem hk)
    rw [ht] at hth
    simp only [thingAt_eq hk ht]
    have n1 := hp.n1
    have n2 := hp.n2
    have n3 := hp.n3
    split
    · rename_i hs
      have sb := shown_bd (still_isB hs).1
      split
      · rename_i hf
        rcases hth.2 with h0 | h0
        · exact absurd h0 hf
        · simp only; omega
      · have d1 := Int.ediv_nonneg (show 0 ≤ w.1 by omega) (show 0 ≤ (shownS t).2 + 1 by omega)
        have d2 := Int.ediv_le_self ((shownS t).2 + 1) (show 0 ≤ w.1 by omega)
        simp only [nar]
        split
        · have d3 := Int.ediv_nonneg (show 0 ≤ w.2 by omega) (show 0 ≤ (shownS t).1 by omega)
          omega
        · omega
    · simp
theorem truthsX_pos {p : Pr} {l : List Int} {k : Int} (h : truthsX p l = .error k) : k ≠ 0 := by
  unfold truthsX at h
  cases ho : openX p l with
  | error j =>
    rw [ho] at h
    cases h
    unfold openX at ho
    split at ho
    · split at ho
      · cases ho; decide
      · cases ho
    · cases ho; decide
  | ok u =>
    rw [ho] at h
    simp only [lookX] at h
    split at h
    · cases h
    · cases h; decide
theorem dist_in {p : Pr} {n : Int} (h : (distX p n).2 = 0) : p.Ok ∧ ∃ k : Nat, n = k ∧ k < p.things.length := by
  unfold distX at h
  cases h2 : truthsX p [n] with
  | error k =>
    rw [h2] at h
    have := truthsX_pos h2
    simp only at h
    omega
  | ok w =>
    obtain ⟨hp, hop, _⟩ := truths_bd h2
    exact ⟨hp, openX_in hop (List.mem_singleton.2 rfl)⟩
theorem openG_ok {g : Gl} {v : Bool} {u : Unit} (h : openG g v = .ok u) : (0 ≤ g.d1 ∧ g.d1 < g.d2 ∧ g.d2 ≤ 65536) ∧ v = true := by
  unfold openG at h
  split at h
  · rename_i hf
    split at h
    · rename_i hv
      simp only [fitG, within, Bool.and_eq_true, decide_eq_true_eq] at hf
      exact ⟨by omega, hv⟩
    · cases h
  · cases h
def dayG (g : Gl) (a b goal : Int) : Int :=
  if b ≤ goal then g.d2 else if a ≤ b then -1 else if 65536 < g.d2 + -(-((b - goal) * (g.d2 - g.d1)) / (a - b)) then -1 else g.d2 + -(-((b - goal) * (g.d2 - g.d1)) / (a - b))
def arrG (g : Gl) (goal : Int) (z : Z2) : (Int × Int) × Int := if dayG g z.1.2 z.2.1 goal = -1 then ((0, 0), 4) else ((dayG g z.1.2 z.2.1 goal, dayG g z.1.1 z.2.2 goal), 0)
def gArrives (g : Gl) (n goal : Int) : (Int × Int) × Int :=
  match openG g (isThingG g n && within goal 0 1073741824) with
  | .error k => ((0, 0), k)
  | .ok _ => if seenG g n then arrG g goal (farG g n) else ((0, 0), 11)
theorem up_floor {a b : Int} (hb : 0 < b) (ha : a < 0) : -((-a + b - 1).tdiv b) = a / b := by
  rw [Int.tdiv_eq_ediv_of_nonneg (by omega)]
  have h2 := Int.mul_ediv_add_emod a b
  have h3 := Int.emod_nonneg a (show b ≠ 0 by omega)
  have h4 := Int.emod_lt_of_pos a hb
  have g2 := Int.mul_ediv_add_emod (-a + b - 1) b
  have g3 := Int.emod_nonneg (-a + b - 1) (show b ≠ 0 by omega)
  have g4 := Int.emod_lt_of_pos (-a + b - 1) hb
  have g5 : b * -((-a + b - 1) / b) = -(b * ((-a + b - 1) / b)) := Int.mul_neg _ _
  exact div_unique (r := b - 1 - (-a + b - 1) % b) (r' := a % b) hb (by rw [g5]; omega) (by omega) (by omega)
end Go.Pw1
