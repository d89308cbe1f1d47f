/- Layer 1 in plain words: pairs, what the package and the reference compute of them, and that they are the same. No program is in sight. -/
import Derived.Test.YtjijeeadmhpfcaaJ00
set_option linter.unusedSimpArgs false
set_option linter.unusedVariables false
namespace Go.Pw1
open Go Go.Eng

structure Sp where
  lo : Int
  hi : Int
  deriving DecidableEq
structure Th where
  lx : Sp
  ly : Sp
  rx : Sp
  ry : Sp
  far : Int
  deriving DecidableEq
structure Pr where
  focal : Sp
  base : Sp
  tilt : Int
  near : Int
  far : Int
  things : List Th

abbrev i64 (n : Int) : Value := .int .i64 n
def Sp.v (s : Sp) : Value := .agg #[.int .i64 s.lo, .int .i64 s.hi]
def Th.cells (t : Th) : List Value := [.int .i64 t.lx.lo, .int .i64 t.lx.hi, .int .i64 t.ly.lo, .int .i64 t.ly.hi, .int .i64 t.rx.lo, .int .i64 t.rx.hi, .int .i64 t.ry.lo, .int .i64 t.ry.hi, .int .i64 t.far]
def Th.v (t : Th) : Value := .agg t.cells.toArray
def Pr.cells (p : Pr) (q : Option Addr) (cap : Nat) : List Value := [.int .i64 p.focal.lo, .int .i64 p.focal.hi, .int .i64 p.base.lo, .int .i64 p.base.hi, .int .i64 p.tilt, .int .i64 p.near, .int .i64 p.far, .slice q p.things.length cap]
def Pr.v (p : Pr) (q : Option Addr) (cap : Nat) : Value := .agg (p.cells q cap).toArray
/-- A view: a pair and its powers. -/
def vwCells (p : Pr) (q : Option Addr) (cap : Nat) (w : Int × Int) : List Value := [.int .i64 p.focal.lo, .int .i64 p.focal.hi, .int .i64 p.base.lo, .int .i64 p.base.hi, .int .i64 p.tilt, .int .i64 p.near, .int .i64 p.far, .slice q p.things.length cap, .int .i64 w.1, .int .i64 w.2]
def b2c (b : Int × Int) : List Value := [.int .i64 b.1, .int .i64 b.2]
def b2v (b : Int × Int) : Value := .agg #[.int .i64 b.1, .int .i64 b.2]

/-- A number below another one, times one. -/
theorem mul_bd {a b A B : Int} (ha : 0 ≤ a) (ha' : a ≤ A) (hb : 0 ≤ b) (hb' : b ≤ B) : 0 ≤ a * b ∧ a * b ≤ A * B :=
  ⟨Int.mul_nonneg ha hb, Int.le_trans (Int.mul_le_mul_of_nonneg_left hb' ha) (Int.mul_le_mul_of_nonneg_right ha' (Int.le_trans hb hb'))⟩

/-! ## The package -/
def within (n lo hi : Int) : Bool := decide (lo ≤ n) && decide (n ≤ hi)
def isSpan (s : Sp) (lo hi : Int) : Bool := decide (lo ≤ s.lo) && decide (s.lo ≤ s.hi) && decide (s.hi ≤ hi)
def isPlace (x y : Sp) : Bool := isSpan x (-4000) 4000 && isSpan y (-4000) 4000
def bad (p : Pr) (t : Th) : Bool := !isPlace t.lx t.ly || !isPlace t.rx t.ry || (!decide (t.far = 0) && !within t.far p.near p.far)
def isPair (p : Pr) : Bool :=
  (isSpan p.focal 1 50000 && isSpan p.base 1 10000 && within p.tilt 0 1000) && within p.near 2000 1073741824 && within p.far p.near 1073741824 && decide ((p.things.length : Int) ≤ 12) && !p.things.any (bad p)

def Sp.Ok (s : Sp) (b : Int) : Prop := -b ≤ s.lo ∧ s.lo ≤ s.hi ∧ s.hi ≤ b
def Th.Ok (t : Th) : Prop := t.lx.Ok 4000 ∧ t.ly.Ok 4000 ∧ t.rx.Ok 4000 ∧ t.ry.Ok 4000
structure Pr.Ok (p : Pr) : Prop where
  f1 : 1 ≤ p.focal.lo
  f2 : p.focal.lo ≤ p.focal.hi
  f3 : p.focal.hi ≤ 50000
  b1 : 1 ≤ p.base.lo
  b2 : p.base.lo ≤ p.base.hi
  b3 : p.base.hi ≤ 10000
  t1 : 0 ≤ p.tilt
  t2 : p.tilt ≤ 1000
  n1 : 2000 ≤ p.near
  n2 : p.near ≤ p.far
  n3 : p.far ≤ 1073741824
  len : p.things.length ≤ 12
  ths : ∀ t ∈ p.things, t.Ok ∧ (t.far = 0 ∨ (p.near ≤ t.far ∧ t.far ≤ p.far))
theorem isPair_ok {p : Pr} (h : isPair p = true) : p.Ok := by
  simp only [isPair, isSpan, within, Bool.and_eq_true, decide_eq_true_eq, Bool.not_eq_true', List.any_eq_false] at h
  obtain ⟨⟨⟨⟨⟨⟨h1, h2⟩, h3⟩, h4⟩, h5⟩, h6⟩, h7⟩ := h
  refine ⟨by omega, by omega, by omega, by omega, by omega, by omega, by omega, by omega, by omega, by omega, by omega, by omega, fun t ht => ?_⟩
  have := h7 t ht
  simp only [bad, isPlace, isSpan, within, Bool.or_eq_true, Bool.not_eq_true', Bool.and_eq_true, decide_eq_true_eq, Bool.and_eq_false_iff, decide_eq_false_iff_not, not_or, Bool.not_eq_false', not_and] at this
  unfold Th.Ok Sp.Ok
  refine ⟨by omega, ?_⟩
  by_cases h0 : t.far = 0
  · exact .inl h0
  · right; omega

def shift (t : Th) : Int × Int := (t.lx.lo - t.rx.hi, t.lx.hi - t.rx.lo)
def nar (a b : Int × Int) : Int × Int := (max a.1 b.1, min a.2 b.2)
def narL (a : Int × Int) (l : List (Int × Int)) : Int × Int := l.foldl nar a
theorem narL_snoc (a : Int × Int) (l : List (Int × Int)) (x : Int × Int) : narL a (l ++ [x]) = nar (narL a l) x := by simp [narL, List.foldl_append]
def isB (a : Int × Int) : Bool := decide (a.1 ≤ a.2)
theorem shift_bd {t : Th} (h : t.Ok) : (-8000 ≤ (shift t).1 ∧ (shift t).1 ≤ 8000) ∧ (-8000 ≤ (shift t).2 ∧ (shift t).2 ≤ 8000) := by
  obtain ⟨⟨h1, h2, h3⟩, ⟨h4, h5, h6⟩, ⟨h7, h8, h9⟩, ⟨h10, h11, h12⟩⟩ := h
  simp only [shift]
  omega
def shownS (t : Th) : Int × Int := nar (shift t) (0, 2000)
def levelS (p : Pr) (t : Th) : Bool := isB (nar (t.ly.lo - t.ry.hi, t.ly.hi - t.ry.lo) (-p.tilt, p.tilt))
def powersS (p : Pr) (t : Th) (s : Int × Int) : Int × Int := if t.far = 0 then (s.1 * p.near, (s.2 + 1) * p.far - 1) else (s.1 * t.far, (s.2 + 1) * t.far - 1)
/-- The powers, of some, with which a thing stands still; and whether there are any. -/
def stillS (p : Pr) (t : Th) (w : Int × Int) : (Int × Int) × Bool :=
  if isB (shownS t) && levelS p t then (nar w (powersS p t (shownS t)), isB (nar w (powersS p t (shownS t)))) else (w, false)

theorem shown_bd {t : Th} (h : isB (shownS t) = true) : 0 ≤ (shownS t).1 ∧ (shownS t).1 ≤ (shownS t).2 ∧ (shownS t).2 ≤ 2000 := by
  simp only [isB, decide_eq_true_eq] at h
  refine ⟨?_, h, ?_⟩
  · simp only [shownS, nar]; omega
  · simp only [shownS, nar]; omega
/-- The index of the first one; -1: there is none. -/
def idxF {α : Type} (f : α → Bool) : List α → Int
  | [] => -1
  | x :: l => if f x then 0 else if idxF f l < 0 then -1 else idxF f l + 1
theorem idxF_ge {α : Type} (f : α → Bool) : ∀ l, -1 ≤ idxF f l
  | [] => by simp [idxF]
  | x :: l => by have := idxF_ge f l; unfold idxF; split <;> (try split) <;> omega
theorem idxF_none {α : Type} (f : α → Bool) : ∀ l, l.any f = false → idxF f l = -1
  | [], _ => rfl
  | x :: l, h => by
    simp only [List.any_cons, Bool.or_eq_false_iff] at h
    have := idxF_none f l h.2
    simp [idxF, h.1, this]
theorem idxF_any {α : Type} (f : α → Bool) : ∀ l, decide (0 ≤ idxF f l) = l.any f
  | [] => by simp [idxF]
  | x :: l => by
    have ih := idxF_any f l
    have := idxF_ge f l
    cases hx : f x
    · simp only [List.any_cons, hx, Bool.false_or, ← ih, idxF]
      by_cases h : idxF f l < 0
      · simp [h, show ¬ 0 ≤ idxF f l by omega]
      · simp [h, show 0 ≤ idxF f l by omega]; omega
    · simp [idxF, hx]
theorem idxF_hit {α : Type} (f : α → Bool) : ∀ (l : List α) (k : Nat) (h : k < l.length), (l.take k).any f = false → f l[k] = true → idxF f l = k
  | [], k, h, _, _ => by simp at h
  | x :: l, 0, _, _, h => by simp at h; simp [idxF, h]
  | x :: l, k + 1, h, h1, h2 => by
    simp only [List.take_succ_cons, List.any_cons, Bool.or_eq_false_iff] at h1
    have ih := idxF_hit f l k (by simpa using h) h1.2 (by simpa using h2)
    simp only [idxF, h1.1, ih]
    simp
    omega
theorem any_snoc {α : Type} {f : α → Bool} {l : List α} {k : Nat} (h : k < l.length) (h1 : (l.take k).any f = false) (h2 : f l[k] = false) : (l.take (k + 1)).any f = false := by
  rw [List.take_succ_eq_append_getElem h, List.any_append, h1]
  simp [h2]

theorem any_hit {α : Type} {f : α → Bool} {l : List α} {k : Nat} (h : k < l.length) (h2 : f l[k] = true) : l.any f = true := List.any_eq_true.2 ⟨_, List.getElem_mem h, h2⟩
def needX (b : Bool) (e : Int) : Except Int Value := if b then .ok (.tuple #[]) else .error e
theorem need_ok {b : Bool} {e : Int} {v : Value} (h : needX b e = .ok v) : b = true ∧ v = .tuple #[] := by
  unfold needX at h; split at h
  · cases h; exact ⟨by assumption, rfl⟩
  · cases h
theorem need_err {b : Bool} {e k : Int} (h : needX b e = .error k) : b = false ∧ k = e := by
  unfold needX at h; split at h
  · cases h
  · cases h; exact ⟨by simp_all, rfl⟩
/-- A pair is opened, with these numbers of things. -/
def openX (p : Pr) (l : List Int) : Except Int Unit :=
  if isPair p then (if l.any (fun n => !within n 0 ((p.things.length : Int) - 1)) then .error 2 else .ok ()) else .error 1
/-- The powers behind some landmarks; none: there is no truth. -/
def lookL (p : Pr) (w : Int × Int) : List Th → Option (Int × Int)
  | [] => some w
  | t :: l => if t.far = 0 then lookL p w l else if (stillS p t w).2 then lookL p (stillS p t w).1 l else none
def lookS (p : Pr) : Option (Int × Int) := lookL p (p.focal.lo * p.base.lo, p.focal.hi * p.base.hi) p.things
def lookX (p : Pr) : Except Int (Int × Int) := match lookS p with | some w => .ok w | none => .error 4
theorem lookL_append (p : Pr) : ∀ (l l2 : List Th) (w : Int × Int), lookL p w (l ++ l2) = match lookL p w l with | some u => lookL p u l2 | none => none
  | [], l2, w => by simp [lookL]
  | t :: l, l2, w => by
    simp only [List.cons_append, lookL]
    split
    · exact lookL_append p l l2 w
    · split
      · exact lookL_append p l l2 _
      · rfl
theorem look_step {p : Pr} {l : List Th} {w u : Int × Int} {k : Nat} (hk : k < l.length) {t : Th} (ht : l[k] = t) (h : lookL p w (l.take k) = some u) : lookL p w (l.take (k + 1)) = lookL p u [t] := by
  subst ht
  rw [List.take_succ_eq_append_getElem hk, lookL_append, h]
theorem look_fail {p : Pr} {l : List Th} {w u : Int × Int} {k : Nat} (hk : k < l.length) {t : Th} (ht : l[k] = t) (h : lookL p w (l.take k) = some u) (h2 : lookL p u [t] = none) : lookL p w l = none := by
  have h3 : lookL p w (l.take (k + 1)) = none := by rw [look_step hk ht h, h2]
  have h4 := lookL_append p (l.take (k + 1)) (l.drop (k + 1)) w
  rw [List.take_append_drop, h3] at h4
  exact h4
theorem openX_ok {p : Pr} {l : List Int} {u : Unit} (h : openX p l = .ok u) : isPair p = true ∧ l.any (fun n => !within n 0 ((p.things.length : Int) - 1)) = false := by
  unfold openX at h
  split at h
  · split at h
    · cases h
    · exact ⟨by assumption, by simp_all⟩
  · cases h
def truthsX (p : Pr) (l : List Int) : Except Int (Int × Int) := match openX p l with | .error k => .error k | .ok _ => lookX p

theorem openX_in {p : Pr} {l : List Int} {u : Unit} (h : openX p l = .ok u) {n : Int} (hn : n ∈ l) : ∃ k : Nat, n = k ∧ k < p.things.length := by
  have h2 := (openX_ok h).2
  have h3 := List.any_eq_false.1 h2 n hn
  simp only [within, Bool.not_eq_true', Bool.and_eq_true, decide_eq_true_eq, Bool.not_eq_false', Bool.not_eq_true, Bool.not_eq_false] at h3
  obtain ⟨k, rfl⟩ := Int.eq_ofNat_of_zero_le (by omega : 0 ≤ n)
  exact ⟨k, rfl, by omega⟩
theorem truthsX_ok {p : Pr} {l : List Int} {w : Int × Int} (h : truthsX p l = .ok w) : openX p l = .ok () ∧ lookS p = some w := by
  unfold truthsX lookX at h
  split at h
  · cases h
  · rename_i u hu
    split at h
    · rename_i w' hw
      cases h
      exact ⟨hu, hw⟩
    · cases h
theorem look_in {p : Pr} : ∀ {l : List Th} {w u : Int × Int}, lookL p w l = some u → w.1 ≤ w.2 → w.1 ≤ u.1 ∧ u.2 ≤ w.2 ∧ u.1 ≤ u.2
  | [], w, u, h, h0 => by cases h; omega
  | t :: l, w, u, h, h0 => by
    simp only [lookL] at h
    split at h
    · exact look_in h h0
    · split at h
      · rename_i hs
        have hst : (stillS p t w).1.1 ≤ (stillS p t w).1.2 ∧ w.1 ≤ (stillS p t w).1.1 ∧ (stillS p t w).1.2 ≤ w.2 := by
          unfold stillS at hs ⊢
          split
          · rename_i hc
            rw [if_pos hc] at hs
            simp only [isB, decide_eq_true_eq] at hs
            refine ⟨hs, ?_, ?_⟩ <;> simp only [nar] <;> omega
          · rename_i hc
            rw [if_neg hc] at hs; cases hs
        have := look_in h hst.1
        omega
      · cases h
theorem look_bd {p : Pr} (hp : p.Ok) {w : Int × Int} (h : lookX p = .ok w) : 1 ≤ w.1 ∧ w.1 ≤ w.2 ∧ w.2 ≤ 500000000 := by
  have f1 := hp.f1
  have f2 := hp.f2
  have f3 := hp.f3
  have b1 := hp.b1
  have b2 := hp.b2
  have b3 := hp.b3
  have m2 := mul_bd (a := p.focal.hi) (b := p.base.hi) (A := 50000) (B := 10000) (by omega) (by omega) (by omega) (by omega)
  have m1 : 1 * 1 ≤ p.focal.lo * p.base.lo := Int.mul_le_mul f1 b1 (by omega) (by omega)
  have m3 : p.focal.lo * p.base.lo ≤ p.focal.hi * p.base.hi := Int.mul_le_mul f2 b2 (by omega) (by omega)
  unfold lookX at h
  split at h
  · rename_i w' hw
    cases h
    have := look_in (show lookL p _ p.things = some w from hw) m3
    simp only at this
    omega
  · cases h
theorem div_rng {a b : Int} (h0 : 0 ≤ a) (h1 : a ≤ 1000000000000) (hb : 0 < b) : -9223372036854775808 ≤ a / b ∧ a / b ≤ 9223372036854775807 := by
  have h2 := Int.ediv_nonneg h0 (Int.le_of_lt hb)
  have h3 := Int.ediv_le_self b h0
  omega
/-- What the functions return. -/
def thingAt (p : Pr) (n : Int) : Th := p.things.getD n.toNat ⟨⟨0, 0⟩, ⟨0, 0⟩, ⟨0, 0⟩, ⟨0, 0⟩, 0⟩
theorem thingAt_eq {p : Pr} {k : Nat} {t : Th} (hk : k < p.things.length) (ht : p.things[k] = t) : thingAt p (k : Int) = t := by simp [thingAt, hk, ht]
def shiftX (p : Pr) (n : Int) : (Int × Int) × Int := match openX p [n] with | .error k => ((0, 0), k) | .ok _ => (shift (thingAt p n), 0)
def nearerS (a b : Th) : Int := if (shift b).2 < (shift a).1 then 2 else if (shift b).1 < (shift a).2 then 1 else 0
def nearerX (p : Pr) (a b : Int) : Int × Int := match openX p [a, b] with | .error k => (0, k) | .ok _ => (nearerS (thingAt p a) (thingAt p b), 0)
def powerX (p : Pr) : (Int × Int) × Int := match truthsX p [] with | .error k => ((0, 0), k) | .ok w => (w, 0)
def standsX (p : Pr) (far : Int) : (Int × Int) × Int :=
  match openX p [] with
  | .error k => ((0, 0), k)
  | .ok _ => if within far p.near p.far then (match lookX p with | .error k => ((0, 0), k) | .ok w => ((w.1 / far, w.2 / far), 0)) else ((0, 0), 2)


/-! ## The reference -/
theorem mul_bd2 {a b A B : Int} (ha : -A ≤ a ∧ a ≤ A) (hb : 0 ≤ b) (hb' : b ≤ B) : -(A * B) ≤ a * b ∧ a * b ≤ A * B := by
  have hA : 0 ≤ A := by omega
  have h1 := Int.mul_le_mul_of_nonneg_right ha.2 hb
  have h2 := Int.mul_le_mul_of_nonneg_right ha.1 hb
  have h3 := Int.mul_le_mul_of_nonneg_left hb' hA
  rw [Int.neg_mul] at h2
  omega
theorem rng_of {a B : Int} (h : 0 ≤ a ∧ a ≤ B) (hB : B ≤ 9223372036854775807) : -9223372036854775808 ≤ a ∧ a ≤ 9223372036854775807 := by omega
theorem rng_sub {a B : Int} (h : 0 ≤ a ∧ a ≤ B) (hB : B ≤ 9223372036854775807) : -9223372036854775808 ≤ a - 1 ∧ a - 1 ≤ 9223372036854775807 := by omega
def levelR (t : Th) (b : Int) : Bool := decide (t.ly.lo ≤ t.ry.hi + b) && decide (t.ry.lo ≤ t.ly.hi + b)
theorem levelR_eq {p : Pr} (hp : p.Ok) {t : Th} (ht : t.Ok) : levelR t p.tilt = levelS p t := by
  obtain ⟨⟨h1, h2, h3⟩, ⟨h4, h5, h6⟩, ⟨h7, h8, h9⟩, ⟨h10, h11, h12⟩⟩ := ht
  have t1 := hp.t1
  rw [Bool.eq_iff_iff]
  simp only [levelR, levelS, isB, nar, Bool.and_eq_true, decide_eq_true_eq, Int.max_le, Int.le_min]
  generalize p.tilt = b at *
  constructor
  · rintro ⟨h, h'⟩; refine ⟨⟨?_, ?_⟩, ?_, ?_⟩ <;> omega
  · rintro ⟨⟨h, h'⟩, h'', h'''⟩; refine ⟨?_, ?_⟩ <;> omega
def powersR (p : Pr) (t : Th) : Int × Int := if isB (shownS t) && levelS p t then powersS p t (shownS t) else (1, 0)
/-- A power of a thing that stands still: its shift can be shown. -/
theorem powersR_isB {p : Pr} {t : Th} {w : Int × Int} (h0 : 1 ≤ w.1) (h : isB (nar w (powersR p t)) = true) : isB (shownS t) = true ∧ levelS p t = true ∧ powersR p t = powersS p t (shownS t) := by
  unfold powersR at h ⊢
  split
  · rename_i h1; rw [Bool.and_eq_true] at h1; exact ⟨h1.1, h1.2, rfl⟩
  · rename_i h1; rw [if_neg h1] at h; have h2 : max w.1 1 ≤ min w.2 0 := of_decide_eq_true h; omega
def allL (p : Pr) (w : Int × Int) : List Th → Int × Int
  | [] => w
  | t :: l => if t.far = 0 then allL p w l else allL p (nar w (powersR p t)) l
theorem allL_append (p : Pr) : ∀ (l l2 : List Th) (w : Int × Int), allL p w (l ++ l2) = allL p (allL p w l) l2
  | [], _, _ => rfl
  | t :: l, l2, w => by simp only [List.cons_append, allL]; split <;> exact allL_append p l l2 _
theorem allL_step {p : Pr} {l : List Th} {w : Int × Int} {k : Nat} (hk : k < l.length) {t : Th} (ht : l[k] = t) : allL p w (l.take (k + 1)) = if t.far = 0 then allL p w (l.take k) else nar (allL p w (l.take k)) (powersR p t) := by
  rw [List.take_succ_eq_append_getElem hk, allL_append, ht]
  simp [allL]
def powers0 (p : Pr) : Int × Int := (p.focal.lo * p.base.lo, p.focal.hi * p.base.hi)
def allS (p : Pr) : Int × Int := allL p (powers0 p) p.things
/-- It only becomes narrower. -/
theorem nar_le (a b : Int × Int) : a.1 ≤ (nar a b).1 ∧ (nar a b).2 ≤ a.2 := by simp only [nar]; omega
theorem allL_le (p : Pr) : ∀ (l : List Th) (w : Int × Int), w.1 ≤ (allL p w l).1 ∧ (allL p w l).2 ≤ w.2
  | [], w => by simp [allL]
  | t :: l, w => by
    simp only [allL]
    split
    · exact allL_le p l w
    · have h1 := allL_le p l (nar w (powersR p t))
      have h2 := nar_le w (powersR p t)
      omega
theorem look_all (p : Pr) : ∀ (l : List Th) (w : Int × Int), w.1 ≤ w.2 → lookL p w l = if isB (allL p w l) then some (allL p w l) else none
  | [], w, h => by simp [lookL, allL, isB, h]
  | t :: l, w, h => by
    simp only [lookL, allL]
    split
    · exact look_all p l w h
    · unfold stillS powersR
      split
      · rename_i hc
        cases hb : isB (nar w (powersS p t (shownS t))) with
        | true => simp only [if_true]; exact look_all p l _ (by simpa [isB] using hb)
        | false =>
          simp only [Bool.false_eq_true, if_false]
          have h1 := allL_le p l (nar w (powersS p t (shownS t)))
          rw [if_neg]
          simp only [isB, decide_eq_false_iff_not, decide_eq_true_eq] at hb ⊢
          omega
      · simp only [Bool.false_eq_true, if_false]
        have h1 := allL_le p l (nar w (1, 0))
        rw [if_neg]
        have h2 : (nar w (1, 0)).1 ≥ 1 ∧ (nar w (1, 0)).2 ≤ 0 := by simp only [nar]; omega
        simp only [isB, decide_eq_true_eq]
        omega
theorem powers0_le {p : Pr} (hp : p.Ok) : (powers0 p).1 ≤ (powers0 p).2 ∧ 1 ≤ (powers0 p).1 ∧ (powers0 p).2 ≤ 500000000 := by
  have f1 := hp.f1
  have f2 := hp.f2
  have f3 := hp.f3
  have b1 := hp.b1
  have b2 := hp.b2
  have b3 := hp.b3
  have m2 := mul_bd (a := p.focal.hi) (b := p.base.hi) (A := 50000) (B := 10000) (by omega) (by omega) (by omega) (by omega)
  have m1 : 1 * 1 ≤ p.focal.lo * p.base.lo := Int.mul_le_mul f1 b1 (by omega) (by omega)
  have m3 : p.focal.lo * p.base.lo ≤ p.focal.hi * p.base.hi := Int.mul_le_mul f2 b2 (by omega) (by omega)
  simp only [powers0]
  omega
theorem lookX_eq {p : Pr} (hp : p.Ok) : lookX p = if isB (allS p) then .ok (allS p) else .error 4 := by
  have h := look_all p p.things (powers0 p) (powers0_le hp).1
  unfold lookX
  rw [show lookS p = lookL p (powers0 p) p.things from rfl, h]
  unfold allS
  split <;> rename_i h2 <;> split at h2 <;> simp_all
def thingR (p : Pr) (n : Int) : Bool := within n 0 ((p.things.length : Int) - 1)
theorem thingR_in {p : Pr} {n : Int} (h : thingR p n = true) : ∃ k : Nat, n = k ∧ k < p.things.length := by
  simp only [thingR, within, Bool.and_eq_true, decide_eq_true_eq] at h
  obtain ⟨k, rfl⟩ := Int.eq_ofNat_of_zero_le h.1
  exact ⟨k, rfl, by omega⟩
/-- open of the reference. -/
def openR (p : Pr) (valid : Bool) : (Int × Int) × Int := if isPair p then (if valid then (if isB (allS p) then (allS p, 0) else ((0, 0), 4)) else ((0, 0), 2)) else ((0, 0), 1)
theorem openR_ok {p : Pr} {v : Bool} (h : (openR p v).2 = 0) : isPair p = true ∧ v = true ∧ isB (allS p) = true ∧ (openR p v).1 = allS p := by
  unfold openR at h ⊢
  split
  · rename_i h1
    rw [if_pos h1] at h
    split
    · rename_i h2
      rw [if_pos h2] at h
      split
      · exact ⟨h1, h2, by assumption, rfl⟩
      · rename_i h3; rw [if_neg h3] at h; simp at h
    · rename_i h2; rw [if_neg h2] at h; simp at h
  · rename_i h1; rw [if_neg h1] at h; simp at h
theorem openR_bd {p : Pr} {v : Bool} {s : (Int × Int) × Int} (hs : openR p v = s) (h0 : s.2 = 0) : isPair p = true ∧ v = true ∧ s.1 = allS p ∧ 1 ≤ s.1.1 ∧ s.1.1 ≤ s.1.2 ∧ s.1.2 ≤ 500000000 := by
  subst hs
  obtain ⟨h1, h2, h3, h4⟩ := openR_ok h0
  have hp := isPair_ok h1
  have hb := powers0_le hp
  have hle := allL_le p p.things (powers0 p)
  rw [show allL p (powers0 p) p.things = allS p from rfl] at hle
  simp only [isB, decide_eq_true_eq] at h3
  rw [h4]
  exact ⟨h1, h2, rfl, by omega, by omega, by omega⟩
def whyR (p : Pr) (n : Int) : Int × Int :=
  let s := openR p (thingR p n)
  if s.2 ≠ 0 then (0, s.2) else
  let t := thingAt p n
  if isB (nar s.1 (powersR p t)) then (0, 0) else if !levelS p t then (1, 0) else if (shift t).2 < 0 then (2, 0) else if 2000 < (shift t).1 ∨ s.1.2 < (shift t).1 * p.near then (3, 0) else (4, 0)
def distR (p : Pr) (n : Int) : (Int × Int) × Int :=
  let s := openR p (thingR p n)
  if s.2 ≠ 0 then ((0, 0), s.2) else
  let t := thingAt p n
  if isB (nar s.1 (powersR p t)) then
    if t.far = 0 then ((max p.near (s.1.1 / ((shownS t).2 + 1) + 1), if 0 < (shownS t).1 then min p.far (s.1.2 / (shownS t).1) else p.far), 0)
    else ((t.far, t.far), 0)
  else ((0, 0), 11)
def shiftR (p : Pr) (n : Int) : (Int × Int) × Int := if isPair p then (if thingR p n then (shift (thingAt p n), 0) else ((0, 0), 2)) else ((0, 0), 1)
def nearerR (p : Pr) (a b : Int) : Int × Int := if isPair p then (if thingR p a && thingR p b then (nearerS (thingAt p a) (thingAt p b), 0) else (0, 2)) else (0, 1)
def powerR (p : Pr) : (Int × Int) × Int := openR p true
def standsR (p : Pr) (far : Int) : (Int × Int) × Int := let s := openR p (within far p.near p.far); if s.2 ≠ 0 then ((0, 0), s.2) else ((s.1.1 / far, s.1.2 / far), 0)
end Go.Pw1
/- Layer 1 in plain words: why, distance. -/
set_option linter.unusedSimpArgs false
set_option linter.unusedVariables false
namespace Go.Pw1
open Go Go.Eng
def whyS (p : Pr) (t : Th) (w : Int × Int) : Int :=
  if (stillS p t w).2 then 0 else 1 + idxF id [!levelS p t, decide ((shift t).2 < 0), decide (2000 < (shift t).1 ∨ w.2 < (shift t).1 * p.near), true]
def whyX (p : Pr) (n : Int) : Int × Int := match truthsX p [n] with | .error k => (0, k) | .ok w => (whyS p (thingAt p n) w, 0)
def distX (p : Pr) (n : Int) : (Int × Int) × Int :=
  match truthsX p [n] with
  | .error k => ((0, 0), k)
  | .ok w =>
    let t := thingAt p n
    if (stillS p t w).2 then
      if t.far ≠ 0 then ((t.far, t.far), 0) else (nar (p.near, p.far) (w.1 / ((shownS t).2 + 1) + 1, if 0 < (shownS t).1 then w.2 / (shownS t).1 else p.far), 0)
    else ((0, 0), 11)
theorem idxF_ge0 {α : Type} (f : α → Bool) (l : List α) : -1 ≤ idxF f l := idxF_ge f l
theorem idxF_lt {α : Type} (f : α → Bool) : ∀ l : List α, idxF f l < l.length ∨ idxF f l = -1
  | [] => by simp [idxF]
  | x :: l => by
    have h := idxF_lt f l
    unfold idxF
    split
    · left; simp only [List.length_cons]; omega
    · split
      · exact .inr rfl
      · left; simp only [List.length_cons]; omega
theorem truths_bd {p : Pr} {l : List Int} {w : Int × Int} (h : truthsX p l = .ok w) : p.Ok ∧ openX p l = .ok () ∧ 1 ≤ w.1 ∧ w.1 ≤ w.2 ∧ w.2 ≤ 500000000 := by
  obtain ⟨h1, h2⟩ := truthsX_ok h
  have hp := isPair_ok (openX_ok h1).1
  have h3 := look_bd hp (w := w) (by unfold lookX; rw [h2])
  exact ⟨hp, h1, h3⟩
theorem still_isB {p : Pr} {t : Th} {w : Int × Int} (h : (stillS p t w).2 = true) : isB (shownS t) = true ∧ levelS p t = true := by
  unfold stillS at h
  split at h
  · rename_i h1; rw [Bool.and_eq_true] at h1; exact h1
  · cases h
theorem div_rng2 {a b : Int} (h0 : 0 ≤ a) (h1 : a ≤ 1000000000000) (hb : 0 < b) : -9223372036854775808 ≤ a / b + 1 ∧ a / b + 1 ≤ 9223372036854775807 := by
  have h2 := Int.ediv_nonneg h0 (Int.le_of_lt hb)
  have h3 := Int.ediv_le_self b h0
  omega
end Go.Pw1
/- Layer 5: what the package's functions return, in plain terms. -/
set_option linter.unusedSimpArgs false
set_option linter.unusedVariables false
namespace Go.Pw1
open Go Go.Eng
/-- A glacier, and where its slices lie. -/
structure Gl where
  f : Pr
  s : Pr
  d1 : Int
  d2 : Int
structure Ga where
  q1 : Option Addr
  b1 : Nat
  o1 : Nat
  c1 : Nat
  q2 : Option Addr
  b2 : Nat
  o2 : Nat
  c2 : Nat
def Gl.cells (g : Gl) (a : Ga) : List Value := [.int .i64 g.f.focal.lo, .int .i64 g.f.focal.hi, .int .i64 g.f.base.lo, .int .i64 g.f.base.hi, .int .i64 g.f.tilt, .int .i64 g.f.near, .int .i64 g.f.far, .slice a.q1 g.f.things.length a.c1,
  .int .i64 g.s.focal.lo, .int .i64 g.s.focal.hi, .int .i64 g.s.base.lo, .int .i64 g.s.base.hi, .int .i64 g.s.tilt, .int .i64 g.s.near, .int .i64 g.s.far, .slice a.q2 g.s.things.length a.c2, .int .i64 g.d1, .int .i64 g.d2]
def Gl.v (g : Gl) (a : Ga) : Value := .agg (g.cells a).toArray
structure GIn (w : World) (g : Gl) (a : Ga) : Prop where
  s1 : Sl w a.q1 a.b1 a.o1 9 (g.f.things.map Th.cells)
  s2 : Sl w a.q2 a.b2 a.o2 9 (g.s.things.map Th.cells)
  l1 : g.f.things.length ≤ 100000000000
  l2 : g.s.things.length ≤ 100000000000
theorem GIn.mono {W w : World} {g : Gl} {a : Ga} {news : Blks} (h : GIn W g a) (hm : Mem W [] news w) : GIn w g a := ⟨h.s1.mono (by decide) hm (by simp), h.s2.mono (by decide) hm (by simp), h.l1, h.l2⟩
abbrev Z2 := (Int × Int) × (Int × Int)
def z2c (z : Z2) : List Value := [.int .i64 z.1.1, .int .i64 z.1.2, .int .i64 z.2.1, .int .i64 z.2.2]
def z2v (z : Z2) : Value := .agg (z2c z).toArray
def fitG (g : Gl) : Bool := decide ((g.f.things.length : Int) = (g.s.things.length : Int)) && within g.d1 0 65536 && within g.d2 0 65536 && decide (g.d1 < g.d2)
def openG (g : Gl) (valid : Bool) : Except Int Unit :=
  if fitG g && !decide ((powerX g.f).2 = 1) && !decide ((powerX g.s).2 = 1) then
    if valid then if (powerX g.f).2 = 0 then if (powerX g.s).2 = 0 then .ok () else .error (powerX g.s).2 else .error (powerX g.f).2
    else .error 2
  else .error 1
def isThingG (g : Gl) (n : Int) : Bool := within n 0 (g.f.things.length - 1)
def farG (g : Gl) (n : Int) : Z2 := ((distX g.f n).1, (distX g.s n).1)
def seenG (g : Gl) (n : Int) : Bool := decide ((distX g.f n).2 = 0) && decide ((distX g.s n).2 = 0)
def lessZ (a b : Int × Int) : Int × Int := (a.1 - b.2, a.2 - b.1)
def movedZ (z : Z2) : Int × Int := lessZ z.2 z.1
/-- Rounded toward 0, and one less if something is left below 0: rounded down. -/
theorem div_unique {b q r q' r' : Int} (hb : 0 < b) (h : b * q + r = b * q' + r') (h1 : -b < r - r') (h2 : r - r' < b) : q = q' := by
  have h7 : b * (q - q') = r' - r := by rw [Int.mul_sub]; omega
  rcases Int.lt_trichotomy (q - q') 0 with h8 | h8 | h8
  · have := Int.mul_le_mul_of_nonneg_left (show q - q' ≤ -1 by omega) (show 0 ≤ b by omega)
    omega
  · omega
  · have := Int.mul_le_mul_of_nonneg_left (show 1 ≤ q - q' by omega) (show 0 ≤ b by omega)
    omega
theorem down_eq {a b : Int} (hb : 0 < b) : (if a.tmod b < 0 then a.tdiv b - 1 else a.tdiv b) = a / b := by
  have h2 := Int.mul_ediv_add_emod a b
  have h3 := Int.emod_nonneg a (show b ≠ 0 by omega)
  have h4 := Int.emod_lt_of_pos a hb
  rcases Int.le_total 0 a with ha | ha
  · rw [Int.tmod_eq_emod_of_nonneg ha, Int.tdiv_eq_ediv_of_nonneg ha, if_neg (by omega)]
  · obtain ⟨c, rfl⟩ : ∃ c, a = -c := ⟨-a, by omega⟩
    have hc : 0 ≤ c := by omega
    rw [Int.neg_tmod, Int.neg_tdiv, Int.tmod_eq_emod_of_nonneg hc, Int.tdiv_eq_ediv_of_nonneg hc]
    have g2 := Int.mul_ediv_add_emod c b
    have g3 := Int.emod_nonneg c (show b ≠ 0 by omega)
    have g4 := Int.emod_lt_of_pos c hb
    have g5 : b * -(c / b) = -(b * (c / b)) := Int.mul_neg _ _
    split
    · refine div_unique (r := b - c % b) (r' := -c % b) hb ?_ (by omega) (by omega)
      rw [Int.mul_sub, g5]; omega
    · exact div_unique (r := -(c % b)) (r' := -c % b) hb (by rw [g5]; omega) (by omega) (by omega)
/-- How high a thing stood: all ends are tried. -/
def htL (p : Pr) (t : Th) (z : Int × Int) : List Int := [t.ly.lo * z.1 / p.focal.hi, t.ly.lo * z.2 / p.focal.lo, t.ly.lo * z.2 / p.focal.hi, t.ly.hi * z.1 / p.focal.lo, t.ly.hi * z.1 / p.focal.hi, t.ly.hi * z.2 / p.focal.lo, t.ly.hi * z.2 / p.focal.hi]
def minL (x : Int) (l : List Int) : Int := l.foldl min x
def maxL (x : Int) (l : List Int) : Int := l.foldl max x
def htP (p : Pr) (t : Th) (z : Int × Int) : Int × Int := (minL (t.ly.lo * z.1 / p.focal.lo) (htL p t z), maxL (t.ly.lo * z.1 / p.focal.lo) (htL p t z))
def htG (g : Gl) (n : Int) (z : Z2) : Z2 := (htP g.f (thingAt g.f n) z.1, htP g.s (thingAt g.s n) z.2)
def sankZ (g : Gl) (n : Int) (z : Z2) : Int × Int := lessZ (htG g n z).1 (htG g n z).2
/-- What is asked of a thing: why it is not known, or what f says. -/
def askG {α : Type} (g : Gl) (n : Int) (f : Z2 → α) (none : α) : α × Int :=
  match openG g (isThingG g n) with
  | .error k => (none, k)
  | .ok _ => if seenG g n then (f (farG g n), 0) else (none, 11)
def gMoved (g : Gl) (n : Int) : (Int × Int) × Int := askG g n movedZ (0, 0)
def gHeights (g : Gl) (n : Int) : Z2 × Int := askG g n (htG g n) ((0, 0), (0, 0))
def gSank (g : Gl) (n : Int) : (Int × Int) × Int := askG g n (sankZ g n) (0, 0)
def rateZ (g : Gl) (m : Int × Int) : Int × Int := (m.1 * 365 / (g.d2 - g.d1), -(-(m.2 * 365) / (g.d2 - g.d1)))
def gRate (g : Gl) (n : Int) : (Int × Int) × Int := askG g n (fun z => rateZ g (movedZ z)) (0, 0)
/-- How far away a thing is said to be. -/
theorem distX_rng (p : Pr) (n : Int) : 0 ≤ (distX p n).1.1 ∧ (distX p n).1.1 ≤ 1100000000 ∧ 0 ≤ (distX p n).1.2 ∧ (distX p n).1.2 ≤ 1100000000 := by
  unfold distX
  cases h : truthsX p [n] with
  | error k => simp
  | ok w =>
    obtain ⟨hp, hop, w1, w2, w3⟩ := truths_bd h
    obtain ⟨k, rfl, hk⟩ := openX_in hop (List.mem_singleton.2 rfl)
    obtain ⟨t, ht⟩ : ∃ t, p.things[k] = t := ⟨_, rfl⟩
    have hth := hp.ths _ (List.getElem_mem hk)
    rw [ht] at hth
    simp only [thingAt_eq hk ht]
    have n1 := hp.n1
    have n2 := hp.n2
    have n3 := hp.n3
    split
    · rename_i hs
      have sb := shown_bd (still_isB hs).1
      split
      · rename_i hf
        rcases hth.2 with h0 | h0
        · exact absurd h0 hf
        · simp only; omega
      · have d1 := Int.ediv_nonneg (show 0 ≤ w.1 by omega) (show 0 ≤ (shownS t).2 + 1 by omega)
        have d2 := Int.ediv_le_self ((shownS t).2 + 1) (show 0 ≤ w.1 by omega)
        simp only [nar]
        split
        · have d3 := Int.ediv_nonneg (show 0 ≤ w.2 by omega) (show 0 ≤ (shownS t).1 by omega)
          omega
        · omega
    · simp
theorem truthsX_pos {p : Pr} {l : List Int} {k : Int} (h : truthsX p l = .error k) : k ≠ 0 := by
  unfold truthsX at h
  cases ho : openX p l with
  | error j =>
    rw [ho] at h
    cases h
    unfold openX at ho
    split at ho
    · split at ho
      · cases ho; decide
      · cases ho
    · cases ho; decide
  | ok u =>
    rw [ho] at h
    simp only [lookX] at h
    split at h
    · cases h
    · cases h; decide
theorem dist_in {p : Pr} {n : Int} (h : (distX p n).2 = 0) : p.Ok ∧ ∃ k : Nat, n = k ∧ k < p.things.length := by
  unfold distX at h
  cases h2 : truthsX p [n] with
  | error k =>
    rw [h2] at h
    have := truthsX_pos h2
    simp only at h
    omega
  | ok w =>
    obtain ⟨hp, hop, _⟩ := truths_bd h2
    exact ⟨hp, openX_in hop (List.mem_singleton.2 rfl)⟩
theorem openG_ok {g : Gl} {v : Bool} {u : Unit} (h : openG g v = .ok u) : (0 ≤ g.d1 ∧ g.d1 < g.d2 ∧ g.d2 ≤ 65536) ∧ v = true := by
  unfold openG at h
  split at h
  · rename_i hf
    split at h
    · rename_i hv
      simp only [fitG, within, Bool.and_eq_true, decide_eq_true_eq] at hf
      exact ⟨by omega, hv⟩
    · cases h
  · cases h
def dayG (g : Gl) (a b goal : Int) : Int :=
  if b ≤ goal then g.d2 else if a ≤ b then -1 else if 65536 < g.d2 + -(-((b - goal) * (g.d2 - g.d1)) / (a - b)) then -1 else g.d2 + -(-((b - goal) * (g.d2 - g.d1)) / (a - b))
def arrG (g : Gl) (goal : Int) (z : Z2) : (Int × Int) × Int := if dayG g z.1.2 z.2.1 goal = -1 then ((0, 0), 4) else ((dayG g z.1.2 z.2.1 goal, dayG g z.1.1 z.2.2 goal), 0)
def gArrives (g : Gl) (n goal : Int) : (Int × Int) × Int :=
  match openG g (isThingG g n && within goal 0 1073741824) with
  | .error k => ((0, 0), k)
  | .ok _ => if seenG g n then arrG g goal (farG g n) else ((0, 0), 11)
theorem up_floor {a b : Int} (hb : 0 < b) (ha : a < 0) : -((-a + b - 1).tdiv b) = a / b := by
  rw [Int.tdiv_eq_ediv_of_nonneg (by omega)]
  have h2 := Int.mul_ediv_add_emod a b
  have h3 := Int.emod_nonneg a (show b ≠ 0 by omega)
  have h4 := Int.emod_lt_of_pos a hb
  have g2 := Int.mul_ediv_add_emod (-a + b - 1) b
  have g3 := Int.emod_nonneg (-a + b - 1) (show b ≠ 0 by omega)
  have g4 := Int.emod_lt_of_pos (-a + b - 1) hb
  have g5 : b * -((-a + b - 1) / b) = -(b * ((-a + b - 1) / b)) := Int.mul_neg _ _
  exact div_unique (r := b - 1 - (-a + b - 1) % b) (r' := a % b) hb (by rw [g5]; omega) (by omega) (by omega)
end Go.Pw1
/- Walks of package pair: what each small function returns. -/
set_option linter.unusedSimpArgs false
set_option linter.unusedVariables false
namespace Go.Proofs.Ytjijeeadmhpfcaa
open Go Go.Eng Go.Pw1

theorem within_calls (n lo hi : Int) (W : World) : Calls Try.prog 95 #[.int .i64 n, .int .i64 lo, .int .i64 hi] W (Pure (.bool (within n lo hi)) W) := by
  refine calls_start Try.func95 rfl rfl ?_
  refine RunC.seq ?_
  refine RunC.region ?_
  refine RunL.val (Val.pure rfl) rfl rfl rfl ?_
  refine RunL.nil ?_
  refine RunE.next ?_
  refine RunC.seq ?_
  refine RunC.region ?_
  iterate 4 refine RunL.val (Val.pure rfl) rfl rfl rfl ?_
  refine RunL.andPart (dj := 10) (dp := 14) 4 rfl (fun g10 => by
    have g10' := g10
    try simp only [decide_eq_true_eq, decide_eq_false_iff_not, Bool.not_eq_true', Bool.not_eq_false', Bool.and_eq_true, Bool.or_eq_true, Bool.and_eq_false_iff, Bool.or_eq_false_iff, Int.not_le, Int.not_lt] at g10'
    iterate 4 refine RunL.val (Val.pure rfl) rfl rfl rfl ?_
    exact RunL.segEnd (Sub.cons rfl (Sub.skip rfl (Sub.skip rfl (Sub.skip rfl (Sub.skip rfl (Sub.same rfl (by rw [g10]) (Sub.refl _))))))) (List.Sublist.refl _)
  ) (fun g10 => by
    have g10' := g10
    try simp only [decide_eq_true_eq, decide_eq_false_iff_not, Bool.not_eq_true', Bool.not_eq_false', Bool.and_eq_true, Bool.or_eq_true, Bool.and_eq_false_iff, Bool.or_eq_false_iff, Int.not_le, Int.not_lt] at g10'
    iterate 3 refine RunL.no rfl rfl rfl ?_
    refine RunL.val (Val.pure rfl) rfl rfl rfl ?_
    exact RunL.segEnd (Sub.cons rfl (Sub.skip rfl (Sub.skip rfl (Sub.skip rfl (Sub.skip rfl (Sub.same rfl (by rw [g10]) (Sub.refl _))))))) (List.Sublist.refl _)
  ) ?_
  refine RunL.val (Val.pure rfl) rfl rfl rfl ?_
  refine RunL.nil ?_
  refine RunE.next ?_
  refine RunC.ret ?_
  exact RunE.retP (.r1 rfl (.tmp rfl)) (by first | rfl | simp)
theorem isSpan_calls (s : Sp) (lo hi : Int) (W : World) : Calls Try.prog 103 #[.agg #[.int .i64 s.lo, .int .i64 s.hi], .int .i64 lo, .int .i64 hi] W (Pure (.bool (isSpan s lo hi)) W) := by
  refine calls_start Try.func103 rfl rfl ?_
  refine RunC.seq ?_
  refine RunC.region ?_
  refine RunL.new (New.box rfl) rfl rfl rfl (fun b3 => ?_)
  refine RunL.val (Val.pure rfl) rfl rfl rfl ?_
  refine RunL.nil ?_
  refine RunE.next ?_
  refine RunC.seq ?_
  refine RunC.region ?_
  refine RunL.val (Val.pure rfl) rfl rfl rfl ?_
  refine RunL.val (Val.fieldAddr rfl fld_23_0) rfl rfl rfl ?_
  refine RunL.val (Val.load_one rfl (.head _) ty_3 rfl) rfl rfl rfl ?_
  refine RunL.val (Val.pure rfl) rfl rfl rfl ?_
  refine RunL.val (Val.pure rfl) rfl rfl rfl ?_
  refine RunL.andPart (dj := 11) (dp := 17) 6 rfl (fun g11 => by
    have g11' := g11
    try simp only [decide_eq_true_eq, decide_eq_false_iff_not, Bool.not_eq_true', Bool.not_eq_false', Bool.and_eq_true, Bool.or_eq_true, Bool.and_eq_false_iff, Bool.or_eq_false_iff, Int.not_le, Int.not_lt] at g11'
    refine RunL.val (Val.fieldAddr rfl fld_23_0) rfl rfl rfl ?_
    refine RunL.val (Val.load_one rfl (.head _) ty_3 rfl) rfl rfl rfl ?_
    refine RunL.val (Val.fieldAddr rfl fld_23_1) rfl rfl rfl ?_
    refine RunL.val (Val.load_one rfl (.head _) ty_3 rfl) rfl rfl rfl ?_
    refine RunL.val (Val.pure rfl) rfl rfl rfl ?_
    refine RunL.val (Val.pure rfl) rfl rfl rfl ?_
    exact RunL.segEnd (Sub.cons rfl (Sub.skip rfl (Sub.skip rfl (Sub.skip rfl (Sub.skip rfl (Sub.skip rfl (Sub.skip rfl (Sub.same rfl (by rw [g11]) (Sub.refl _))))))))) (List.Sublist.refl _)
  ) (fun g11 => by
    have g11' := g11
    try simp only [decide_eq_true_eq, decide_eq_false_iff_not, Bool.not_eq_true', Bool.not_eq_false', Bool.and_eq_true, Bool.or_eq_true, Bool.and_eq_false_iff, Bool.or_eq_false_iff, Int.not_le, Int.not_lt] at g11'
    iterate 5 refine RunL.no rfl rfl rfl ?_
    refine RunL.val (Val.pure rfl) rfl rfl rfl ?_
    exact RunL.segEnd (Sub.cons rfl (Sub.skip rfl (Sub.skip rfl (Sub.skip rfl (Sub.skip rfl (Sub.skip rfl (Sub.skip rfl (Sub.same rfl (by rw [g11]) (Sub.refl _))))))))) (List.Sublist.refl _)
  ) ?_
  refine RunL.val (Val.pure rfl) rfl rfl rfl ?_
  refine RunL.andPart (dj := 18) (dp := 23) 5 rfl (fun g18 => by
    have g18' := g18
    try simp only [decide_eq_true_eq, decide_eq_false_iff_not, Bool.not_eq_true', Bool.not_eq_false', Bool.and_eq_true, Bool.or_eq_true, Bool.and_eq_false_iff, Bool.or_eq_false_iff, Int.not_le, Int.not_lt] at g18'
    refine RunL.val (Val.fieldAddr rfl fld_23_1) rfl rfl rfl ?_
    refine RunL.val (Val.load_one rfl (.head _) ty_3 rfl) rfl rfl rfl ?_
    iterate 3 refine RunL.val (Val.pure rfl) rfl rfl rfl ?_
    exact RunL.segEnd (Sub.cons rfl (Sub.skip rfl (Sub.skip rfl (Sub.skip rfl (Sub.skip rfl (Sub.skip rfl (Sub.same rfl (by rw [g18]) (Sub.refl _)))))))) (List.Sublist.refl _)
  ) (fun g18 => by
    have g18' := g18
    try simp only [decide_eq_true_eq, decide_eq_false_iff_not, Bool.not_eq_true', Bool.not_eq_false', Bool.and_eq_true, Bool.or_eq_true, Bool.and_eq_false_iff, Bool.or_eq_false_iff, Int.not_le, Int.not_lt] at g18'
    iterate 4 refine RunL.no rfl rfl rfl ?_
    refine RunL.val (Val.pure rfl) rfl rfl rfl ?_
    exact RunL.segEnd (Sub.cons rfl (Sub.skip rfl (Sub.skip rfl (Sub.skip rfl (Sub.skip rfl (Sub.skip rfl (Sub.same rfl (by rw [g18]) (Sub.refl _)))))))) (List.Sublist.refl _)
  ) ?_
  refine RunL.val (Val.pure rfl) rfl rfl rfl ?_
  refine RunL.nil ?_
  refine RunE.next ?_
  refine RunC.ret ?_
  exact RunE.retP (.r1 rfl (.tmp rfl)) (by first | rfl | simp)
theorem isPlace_calls (x y : Sp) (W : World) : Calls Try.prog 102 #[.agg #[.int .i64 x.lo, .int .i64 x.hi, .int .i64 y.lo, .int .i64 y.hi]] W (Pure (.bool (isPlace x y)) W) := by
  refine calls_start Try.func102 rfl rfl ?_
  refine RunC.seq ?_
  refine RunC.region ?_
  refine RunL.new (New.box rfl) rfl rfl rfl (fun b1 => ?_)
  refine RunL.val (Val.pure rfl) rfl rfl rfl ?_
  refine RunL.nil ?_
  refine RunE.next ?_
  refine RunC.seq ?_
  refine RunC.region ?_
  refine RunL.val (Val.fieldAddr rfl fld_52_0) rfl rfl rfl ?_
  refine RunL.val (Val.load_agg rfl (.head _) ty_23 rfl) rfl rfl rfl ?_
  refine RunL.callP (isCall_func rfl ent_103) rfl rfl rfl (fun w hm => isSpan_calls ⟨_, _⟩ _ _ w) ?_
  refine RunL.val (Val.pure rfl) rfl rfl rfl ?_
  refine RunL.andPart (dj := 6) (dp := 10) 4 rfl (fun g6 => by
    have g6' := g6
    try simp only [decide_eq_true_eq, decide_eq_false_iff_not, Bool.not_eq_true', Bool.not_eq_false', Bool.and_eq_true, Bool.or_eq_true, Bool.and_eq_false_iff, Bool.or_eq_false_iff, Int.not_le, Int.not_lt] at g6'
    refine RunL.val (Val.fieldAddr rfl fld_52_1) rfl rfl rfl ?_
    refine RunL.val (Val.load_agg rfl (.head _) ty_23 rfl) rfl rfl rfl ?_
    refine RunL.callP (isCall_func rfl ent_103) rfl rfl rfl (fun w hm => isSpan_calls ⟨_, _⟩ _ _ w) ?_
    refine RunL.val (Val.pure rfl) rfl rfl rfl ?_
    exact RunL.segEnd (Sub.cons rfl (Sub.skip rfl (Sub.skip rfl (Sub.skip rfl (Sub.skip rfl (Sub.same rfl (by rw [g6]) (Sub.refl _))))))) (List.Sublist.refl _)
  ) (fun g6 => by
    have g6' := g6
    try simp only [decide_eq_true_eq, decide_eq_false_iff_not, Bool.not_eq_true', Bool.not_eq_false', Bool.and_eq_true, Bool.or_eq_true, Bool.and_eq_false_iff, Bool.or_eq_false_iff, Int.not_le, Int.not_lt] at g6'
    iterate 3 refine RunL.no rfl rfl rfl ?_
    refine RunL.val (Val.pure rfl) rfl rfl rfl ?_
    exact RunL.segEnd (Sub.cons rfl (Sub.skip rfl (Sub.skip rfl (Sub.skip rfl (Sub.skip rfl (Sub.same rfl (by rw [g6]) (Sub.refl _))))))) (List.Sublist.refl _)
  ) ?_
  refine RunL.val (Val.pure rfl) rfl rfl rfl ?_
  refine RunL.nil ?_
  refine RunE.next ?_
  refine RunC.ret ?_
  exact RunE.retP (.r1 rfl (.tmp rfl)) (by first | rfl | simp)
theorem bad_calls (p : Pr) (q : Option Addr) (cap : Nat) (t : Th) (bf bp : Nat) (W : World) (hf : W.heap[bf]? = some (.cells #[.func (.func 102) #[] #[]] 128 (0, 0))) (hp : W.heap[bp]? = some (.cells (p.cells q cap).toArray 26 (0, 0))) :
    Calls Try.prog 104 #[t.v, .pointer (some ⟨bf, 0, none⟩), .pointer (some ⟨bp, 0, none⟩)] W (Pure (.bool (bad p t)) W) := by
  refine calls_start Try.func104 rfl rfl ?_
  refine RunC.seq ?_
  refine RunC.region ?_
  refine RunL.new (New.box rfl) rfl rfl rfl (fun b3 => ?_)
  refine RunL.val (Val.pure rfl) rfl rfl rfl ?_
  refine RunL.nil ?_
  refine RunE.next ?_
  refine RunC.seq ?_
  refine RunC.region ?_
  refine RunL.val (Val.oload_one rfl hf (by simp) ty_128 rfl) rfl rfl rfl ?_
  refine RunL.val (Val.fieldAddr rfl fld_54_0) rfl rfl rfl ?_
  refine RunL.val (Val.load_agg rfl (.head _) ty_52 rfl) rfl rfl rfl ?_
  refine RunL.callP (isCall_value rfl rfl ent_102) rfl rfl rfl (fun w hm => isPlace_calls ⟨_, _⟩ ⟨_, _⟩ w) ?_
  refine RunL.val (Val.pure rfl) rfl rfl rfl ?_
  refine RunL.val (Val.pure rfl) rfl rfl rfl ?_
  refine RunL.orPart (dj := 10) (dp := 16) 6 rfl (fun g10 => by
    have g10' := g10
    try simp only [decide_eq_true_eq, decide_eq_false_iff_not, Bool.not_eq_true', Bool.not_eq_false', Bool.and_eq_true, Bool.or_eq_true, Bool.and_eq_false_iff, Bool.or_eq_false_iff, Int.not_le, Int.not_lt] at g10'
    refine RunL.val (Val.oload_one rfl hf (by simp) ty_128 rfl) rfl rfl rfl ?_
    refine RunL.val (Val.fieldAddr rfl fld_54_1) rfl rfl rfl ?_
    refine RunL.val (Val.load_agg rfl (.head _) ty_52 rfl) rfl rfl rfl ?_
    refine RunL.callP (isCall_value rfl rfl ent_102) rfl rfl rfl (fun w hm => isPlace_calls ⟨_, _⟩ ⟨_, _⟩ w) ?_
    refine RunL.val (Val.pure rfl) rfl rfl rfl ?_
    refine RunL.val (Val.pure rfl) rfl rfl rfl ?_
    exact RunL.segEnd (Sub.cons rfl (Sub.skip rfl (Sub.skip rfl (Sub.skip rfl (Sub.skip rfl (Sub.skip rfl (Sub.skip rfl (Sub.same rfl (by rw [g10]) (Sub.refl _))))))))) (List.Sublist.refl _)
  ) (fun g10 => by
    have g10' := g10
    try simp only [decide_eq_true_eq, decide_eq_false_iff_not, Bool.not_eq_true', Bool.not_eq_false', Bool.and_eq_true, Bool.or_eq_true, Bool.and_eq_false_iff, Bool.or_eq_false_iff, Int.not_le, Int.not_lt] at g10'
    iterate 5 refine RunL.no rfl rfl rfl ?_
    refine RunL.val (Val.pure rfl) rfl rfl rfl ?_
    exact RunL.segEnd (Sub.cons rfl (Sub.skip rfl (Sub.skip rfl (Sub.skip rfl (Sub.skip rfl (Sub.skip rfl (Sub.skip rfl (Sub.same rfl (by rw [g10]) (Sub.refl _))))))))) (List.Sublist.refl _)
  ) ?_
  refine RunL.val (Val.pure rfl) rfl rfl rfl ?_
  refine RunL.orPart (dj := 17) (dp := 31) 14 rfl (fun g17 => by
    have g17' := g17
    try simp only [decide_eq_true_eq, decide_eq_false_iff_not, Bool.not_eq_true', Bool.not_eq_false', Bool.and_eq_true, Bool.or_eq_true, Bool.and_eq_false_iff, Bool.or_eq_false_iff, Int.not_le, Int.not_lt] at g17'
    refine RunL.val (Val.fieldAddr rfl fld_54_2) rfl rfl rfl ?_
    refine RunL.val (Val.load_one rfl (.head _) ty_3 rfl) rfl rfl rfl ?_
    refine RunL.val (Val.pure rfl) rfl rfl rfl ?_
    refine RunL.val (Val.pure rfl) rfl rfl rfl ?_
    refine RunL.andPart (dj := 21) (dp := 30) 9 rfl (fun g21 => by
      have g21' := g21
      try simp only [decide_eq_true_eq, decide_eq_false_iff_not, Bool.not_eq_true', Bool.not_eq_false', Bool.and_eq_true, Bool.or_eq_true, Bool.and_eq_false_iff, Bool.or_eq_false_iff, Int.not_le, Int.not_lt] at g21'
      refine RunL.val (Val.fieldAddr rfl fld_54_2) rfl rfl rfl ?_
      refine RunL.val (Val.load_one rfl (.head _) ty_3 rfl) rfl rfl rfl ?_
      refine RunL.val (Val.fieldAddr rfl fld_26_3) rfl rfl rfl ?_
      refine RunL.val (Val.oload_one rfl hp (by simp) ty_3 rfl) rfl rfl rfl ?_
      refine RunL.val (Val.fieldAddr rfl fld_26_4) rfl rfl rfl ?_
      refine RunL.val (Val.oload_one rfl hp (by simp) ty_3 rfl) rfl rfl rfl ?_
      refine RunL.callP (isCall_func rfl ent_95) rfl rfl rfl (fun w hm => within_calls _ _ _ w) ?_
      refine RunL.val (Val.pure rfl) rfl rfl rfl ?_
      refine RunL.val (Val.pure rfl) rfl rfl rfl ?_
      exact RunL.segEnd (Sub.cons rfl (Sub.skip rfl (Sub.skip rfl (Sub.skip rfl (Sub.skip rfl (Sub.skip rfl (Sub.skip rfl (Sub.skip rfl (Sub.skip rfl (Sub.skip rfl (Sub.same rfl (by rw [g21]) (Sub.refl _)))))))))))) (List.Sublist.refl _)
    ) (fun g21 => by
      have g21' := g21
      try simp only [decide_eq_true_eq, decide_eq_false_iff_not, Bool.not_eq_true', Bool.not_eq_false', Bool.and_eq_true, Bool.or_eq_true, Bool.and_eq_false_iff, Bool.or_eq_false_iff, Int.not_le, Int.not_lt] at g21'
      iterate 8 refine RunL.no rfl rfl rfl ?_
      refine RunL.val (Val.pure rfl) rfl rfl rfl ?_
      exact RunL.segEnd (Sub.cons rfl (Sub.skip rfl (Sub.skip rfl (Sub.skip rfl (Sub.skip rfl (Sub.skip rfl (Sub.skip rfl (Sub.skip rfl (Sub.skip rfl (Sub.skip rfl (Sub.same rfl (by rw [g21]) (Sub.refl _)))))))))))) (List.Sublist.refl _)
    ) ?_
    refine RunL.val (Val.pure rfl) rfl rfl rfl ?_
    exact RunL.segEnd (Sub.cons rfl (Sub.skip rfl (Sub.skip rfl (Sub.skip rfl (Sub.skip rfl (Sub.skip rfl (Sub.skip rfl (Sub.same rfl (by rw [g17]) (Sub.refl _))))))))) (List.Sublist.refl _)
  ) (fun g17 => by
    have g17' := g17
    try simp only [decide_eq_true_eq, decide_eq_false_iff_not, Bool.not_eq_true', Bool.not_eq_false', Bool.and_eq_true, Bool.or_eq_true, Bool.and_eq_false_iff, Bool.or_eq_false_iff, Int.not_le, Int.not_lt] at g17'
    iterate 13 refine RunL.no rfl rfl rfl ?_
    refine RunL.val (Val.pure rfl) rfl rfl rfl ?_
    exact RunL.segEnd (Sub.cons rfl (Sub.skip rfl (Sub.skip rfl (Sub.skip rfl (Sub.skip rfl (Sub.skip rfl (Sub.skip rfl (Sub.skip rfl (Sub.skip rfl (Sub.skip rfl (Sub.skip rfl (Sub.skip rfl (Sub.skip rfl (Sub.skip rfl (Sub.skip rfl (Sub.same rfl (by rw [g17]) (Sub.refl _))))))))))))))))) (List.Sublist.refl _)
  ) ?_
  refine RunL.val (Val.pure rfl) rfl rfl rfl ?_
  refine RunL.nil ?_
  refine RunE.next ?_
  refine RunC.ret ?_
  exact RunE.retP (.r1 rfl (.tmp rfl)) (by first | rfl | simp)

theorem shiftOf_calls (t : Th) (ht : t.Ok) (W : World) : Calls Try.prog 89 #[t.v] W (Pure (b2v (shift t)) W) := by
  obtain ⟨⟨h1, h2, h3⟩, ⟨h4, h5, h6⟩, ⟨h7, h8, h9⟩, ⟨h10, h11, h12⟩⟩ := ht
  refine calls_start Try.func89 rfl rfl ?_
  refine RunC.seq ?_
  refine RunC.region ?_
  refine RunL.new (New.box rfl) rfl rfl rfl (fun b1 => ?_)
  refine RunL.new (New.alloc zero_23) rfl rfl rfl (fun b2 => ?_)
  refine RunL.nil ?_
  refine RunE.next ?_
  refine RunC.seq ?_
  refine RunC.region ?_
  refine RunL.val (Val.fieldAddr rfl fld_54_0) rfl rfl rfl ?_
  refine RunL.val (Val.fieldAddr rfl fld_52_0) rfl rfl rfl ?_
  refine RunL.val (Val.fieldAddr rfl fld_23_0) rfl rfl rfl ?_
  refine RunL.val (Val.load_one rfl (.tail _ (.head _)) ty_3 rfl) rfl rfl rfl ?_
  refine RunL.val (Val.fieldAddr rfl fld_54_1) rfl rfl rfl ?_
  refine RunL.val (Val.fieldAddr rfl fld_52_0) rfl rfl rfl ?_
  refine RunL.val (Val.fieldAddr rfl fld_23_1) rfl rfl rfl ?_
  refine RunL.val (Val.load_one rfl (.tail _ (.head _)) ty_3 rfl) rfl rfl rfl ?_
  refine RunL.val (Val.sub' rfl rfl (IntWalk.i64_in _ ⟨by omega, by omega⟩)) rfl rfl rfl ?_
  refine RunL.val (Val.fieldAddr rfl fld_54_0) rfl rfl rfl ?_
  refine RunL.val (Val.fieldAddr rfl fld_52_0) rfl rfl rfl ?_
  refine RunL.val (Val.fieldAddr rfl fld_23_1) rfl rfl rfl ?_
  refine RunL.val (Val.load_one rfl (.tail _ (.head _)) ty_3 rfl) rfl rfl rfl ?_
  refine RunL.val (Val.fieldAddr rfl fld_54_1) rfl rfl rfl ?_
  refine RunL.val (Val.fieldAddr rfl fld_52_0) rfl rfl rfl ?_
  refine RunL.val (Val.fieldAddr rfl fld_23_0) rfl rfl rfl ?_
  refine RunL.val (Val.load_one rfl (.tail _ (.head _)) ty_3 rfl) rfl rfl rfl ?_
  refine RunL.val (Val.sub' rfl rfl (IntWalk.i64_in _ ⟨by omega, by omega⟩)) rfl rfl rfl ?_
  refine RunL.val (Val.build (parts := [(0, .tmp 11), (1, .tmp 20)]) rfl zero_23 places_23 rfl) rfl rfl rfl ?_
  refine RunL.sto (Sto.store rfl rfl .here ty_23 rfl rfl) rfl rfl ?_
  refine RunL.nil ?_
  refine RunE.next ?_
  refine RunC.ret ?_
  exact RunE.retP (.r1 rfl (.agg rfl (.head _) ty_23 rfl)) (by first | rfl | simp)
theorem spanOf_calls (b : Int × Int) (W : World) : Calls Try.prog 72 #[.agg #[.int .i64 b.1, .int .i64 b.2]] W (Pure (b2v b) W) := by
  refine calls_start Try.func72 rfl rfl ?_
  refine RunC.seq ?_
  refine RunC.region ?_
  refine RunL.new (New.box rfl) rfl rfl rfl (fun b1 => ?_)
  refine RunL.new (New.alloc zero_23) rfl rfl rfl (fun b2 => ?_)
  refine RunL.nil ?_
  refine RunE.next ?_
  refine RunC.seq ?_
  refine RunC.region ?_
  refine RunL.val (Val.indexAddr_arr rfl rfl arr_98 (by decide) (by decide)) rfl rfl rfl ?_
  refine RunL.val (Val.load_one rfl (.tail _ (.head _)) ty_3 rfl) rfl rfl rfl ?_
  refine RunL.val (Val.indexAddr_arr rfl rfl arr_98 (by decide) (by decide)) rfl rfl rfl ?_
  refine RunL.val (Val.load_one rfl (.tail _ (.head _)) ty_3 rfl) rfl rfl rfl ?_
  refine RunL.val (Val.build (parts := [(0, .tmp 4), (1, .tmp 6)]) rfl zero_23 places_23 rfl) rfl rfl rfl ?_
  refine RunL.sto (Sto.store rfl rfl .here ty_23 rfl rfl) rfl rfl ?_
  refine RunL.nil ?_
  refine RunE.next ?_
  refine RunC.ret ?_
  exact RunE.retP (.r1 rfl (.agg rfl (.head _) ty_23 rfl)) (by first | rfl | simp)

/-- Some pairs of bounds, taken together. -/
theorem narrowed_calls (a : Int × Int) (l : List (Int × Int)) (q : Option Addr) (b o cap : Nat) (W : World) (hS : Sl W q b o 2 (l.map b2c)) (hl : l.length ≤ 100) :
    Calls Try.prog 71 #[b2v a, .slice q l.length cap] W (Pure (.tuple #[b2v (narL a l), .bool (isB (narL a l))]) W) := by
  refine calls_start Try.func71 rfl rfl ?_
  refine RunC.seq ?_
  refine RunC.region ?_
  refine RunL.new (New.box rfl) rfl rfl rfl (fun b2 => ?_)
  refine RunL.new (New.alloc zero_98) rfl rfl rfl (fun b4 => ?_)
  refine RunL.val (Val.pure rfl) rfl rfl rfl ?_
  refine RunL.nil ?_
  refine RunE.next ?_
  refine RunC.seq ?_
  refine RunC.seq ?_
  refine RunC.region ?_
  refine RunL.val (Val.pure rfl) rfl rfl rfl ?_
  refine RunL.val (Val.len_sl rfl sl_139) rfl rfl rfl ?_
  refine RunL.val (Val.pure rfl) rfl rfl rfl ?_
  refine RunL.nil ?_
  refine RunE.next ?_
  refine RunC.block ?_
  refine RunC.loopK (l.length) (fun k q => (10, .int .i64 (k : Int)) :: q) (fun _ => _) (fun k => [(b2, .cells (b2c (narL a (l.take k))).toArray 98 (0, 0))]) (fun _ => True) trivial rfl (Sub.consE (t := 10) rfl rfl (Sub.cons (t := 8) rfl (Sub.cons (t := 9) rfl (Sub.cons (t := 2) rfl (Sub.cons (t := 4) rfl (Sub.nil _)))))) (.cons (.there .here) rfl (.cons .here rfl .nil)) ?_
  intro k kN kI
  clear kI
  refine RunC.seq ?_
  refine RunC.region ?_
  refine RunL.val (Val.pure rfl) rfl rfl rfl ?_
  refine RunL.nil ?_
  refine RunE.next ?_
  refine RunC.seq ?_
  refine RunC.cond rfl ?_ ?_
  · intro c0
    have c0' := c0; clear c0
    try simp only [decide_eq_true_eq, decide_eq_false_iff_not, Bool.not_eq_true', Bool.not_eq_false', Bool.and_eq_true, Bool.or_eq_true, Bool.and_eq_false_iff, Bool.or_eq_false_iff, Int.not_le, Int.not_lt] at c0'
    have hk : k < l.length := by omega
    refine RunC.skip ?_
    refine RunE.next ?_
    refine RunC.seq ?_
    refine RunC.block ?_
    refine RunC.seq ?_
    refine RunC.region ?_
    refine RunL.val (Val.indexAddr_slp rfl rfl sl_139 (by omega) (by omega) (hS.ptrM hk)) rfl rfl rfl ?_
    refine RunL.val (Val.load_gen rfl (fun w hm => hS.loadM (by decide) hm (by simp) ty_98 hk)) rfl rfl rfl ?_
    refine RunL.new (New.alloc zero_98) rfl rfl rfl (fun b7 => ?_)
    refine RunL.sto (Sto.store rfl rfl .here ty_98 rfl rfl) rfl rfl ?_
    refine RunL.nil ?_
    refine RunE.next ?_
    refine RunC.region ?_
    refine RunL.val (Val.indexAddr_arr rfl rfl arr_98 (by decide) (by decide)) rfl rfl rfl ?_
    refine RunL.val (Val.load_one rfl (.tail _ (.head _)) ty_3 rfl) rfl rfl rfl ?_
    refine RunL.val (Val.indexAddr_arr rfl rfl arr_98 (by decide) (by decide)) rfl rfl rfl ?_
    refine RunL.val (Val.load_one rfl (.head _) ty_3 rfl) rfl rfl rfl ?_
    refine RunL.val (Val.max rfl rfl) rfl rfl rfl ?_
    refine RunL.val (Val.indexAddr_arr rfl rfl arr_98 (by decide) (by decide)) rfl rfl rfl ?_
    refine RunL.val (Val.load_one rfl (.tail _ (.head _)) ty_3 rfl) rfl rfl rfl ?_
    refine RunL.val (Val.indexAddr_arr rfl rfl arr_98 (by decide) (by decide)) rfl rfl rfl ?_
    refine RunL.val (Val.load_one rfl (.head _) ty_3 rfl) rfl rfl rfl ?_
    refine RunL.val (Val.min rfl rfl) rfl rfl rfl ?_
    refine RunL.val (Val.build (parts := [(0, .tmp 18), (1, .tmp 23)]) rfl zero_98 places_98 rfl) rfl rfl rfl ?_
    refine RunL.sto (Sto.store rfl rfl (.there .here) ty_98 rfl rfl) rfl rfl ?_
    refine RunL.nil ?_
    refine RunE.block_normal ?_
    refine RunE.next ?_
    refine RunC.region ?_
    refine RunL.val (Val.add rfl rfl (IntWalk.i64_in _ ⟨by omega, by omega⟩)) rfl rfl rfl ?_
    refine RunL.val (Val.pure rfl) rfl rfl rfl ?_
    refine RunL.nil ?_
    exact RunE.round (by omega) trivial rfl (Sub.consE (t := 10) rfl rfl (Sub.cons (t := 8) rfl (Sub.cons (t := 9) rfl (Sub.cons (t := 2) rfl (Sub.cons (t := 4) rfl (Sub.nil _)))))) (.cons (.there .here) (by rw [List.take_succ_eq_append_getElem hk, narL_snoc]; rfl) (.cons (.there .here) rfl .nil))
  · intro c0
    have c0' := c0; clear c0
    try simp only [decide_eq_true_eq, decide_eq_false_iff_not, Bool.not_eq_true', Bool.not_eq_false', Bool.and_eq_true, Bool.or_eq_true, Bool.and_eq_false_iff, Bool.or_eq_false_iff, Int.not_le, Int.not_lt] at c0'
    obtain rfl : k = l.length := by omega
    rw [List.take_length]
    refine RunC.exit ?_
    refine RunE.pass_exit ?_
    refine RunE.pass_exit ?_
    refine RunE.block_here ?_
    refine RunE.next ?_
    refine RunC.seq ?_
    refine RunC.draw 7 fol_ (.cons .here rfl .nil) ?_
    refine RunA.val (i := 0) rfl (by kernel_rfl) (by kernel_rfl) (Val.load_agg rfl (.head _) ty_98 rfl) rfl rfl rfl (fun _ _ _ h => h) (.cons .here rfl .nil) rfl ?_
    refine RunA.val (i := 1) rfl (by kernel_rfl) (by kernel_rfl) (Val.indexAddr_arr rfl rfl arr_98 (by decide) (by decide)) rfl rfl rfl (fun _ _ _ h => h) (.cons .here rfl .nil) rfl ?_
    refine RunA.val (i := 2) rfl (by kernel_rfl) (by kernel_rfl) (Val.load_one rfl (.head _) ty_3 rfl) rfl rfl rfl (fun _ _ _ h => h) (.cons .here rfl .nil) rfl ?_
    refine RunA.val (i := 3) rfl (by kernel_rfl) (by kernel_rfl) (Val.indexAddr_arr rfl rfl arr_98 (by decide) (by decide)) rfl rfl rfl (fun _ _ _ h => h) (.cons .here rfl .nil) rfl ?_
    refine RunA.val (i := 4) rfl (by kernel_rfl) (by kernel_rfl) (Val.load_one rfl (.head _) ty_3 rfl) rfl rfl rfl (fun _ _ _ h => h) (.cons .here rfl .nil) rfl ?_
    refine RunA.val (i := 5) rfl (by kernel_rfl) (by kernel_rfl) (Val.pure rfl) rfl rfl rfl (fun _ _ _ h => h) (.cons .here rfl .nil) rfl ?_
    refine RunA.one (i := 6) (by kernel_rfl) (by kernel_rfl) ?_
    refine RunI.sto rfl (Sto.store rfl rfl (.there .here) ty_98 rfl rfl) rfl rfl (RunK.toA (.cons .here rfl .nil) (.cons .here rfl .nil) rfl ?_)
    refine RunA.toB (by kernel_rfl) ?_
    refine RunB.one (i := 7) (by kernel_rfl) ?_
    refine RunI.val rfl (Val.pure rfl) rfl rfl rfl (RunK.toB ?_)
    refine RunB.done (by kernel_rfl) ?_
    refine RunE.next ?_
    refine RunC.ret ?_
    exact RunE.retP (.r2 rfl (.agg rfl (.tail _ (.head _)) ty_98 rfl) (.tmp rfl)) (by first | rfl | simp)
end Go.Proofs.Ytjijeeadmhpfcaa
/- Walks of package pair: what a thing says of the power. -/
set_option linter.unusedSimpArgs false
set_option linter.unusedVariables false
namespace Go.Proofs.Ytjijeeadmhpfcaa
open Go Go.Eng Go.Pw1

theorem shown_calls (t : Th) (ht : t.Ok) (W : World) : Calls Try.prog 70 #[t.v] W (Pure (.tuple #[b2v (shownS t), .bool (isB (shownS t))]) W) := by
  refine calls_start Try.func70 rfl rfl ?_
  refine RunC.seq ?_
  refine RunC.region ?_
  refine RunL.new (New.box rfl) rfl rfl rfl (fun b1 => ?_)
  refine RunL.new (New.alloc zero_98) rfl rfl rfl (fun b2 => ?_)
  refine RunL.val (Val.pure rfl) rfl rfl rfl ?_
  refine RunL.nil ?_
  refine RunE.next ?_
  refine RunC.seq ?_
  refine RunC.region ?_
  refine RunL.val (Val.load_agg rfl (.tail _ (.head _)) ty_54 rfl) rfl rfl rfl ?_
  refine RunL.callP (isCall_func rfl ent_89) rfl rfl rfl (fun w hm => shiftOf_calls ⟨⟨_, _⟩, ⟨_, _⟩, ⟨_, _⟩, ⟨_, _⟩, _⟩ (by assumption) w) ?_
  refine RunL.new (New.alloc zero_23) rfl rfl rfl (fun b4 => ?_)
  refine RunL.sto (Sto.store rfl rfl .here ty_23 rfl rfl) rfl rfl ?_
  refine RunL.nil ?_
  refine RunE.next ?_
  refine RunC.seq ?_
  refine RunC.region ?_
  refine RunL.val (Val.fieldAddr rfl fld_23_0) rfl rfl rfl ?_
  refine RunL.val (Val.load_one rfl (.head _) ty_3 rfl) rfl rfl rfl ?_
  refine RunL.val (Val.fieldAddr rfl fld_23_1) rfl rfl rfl ?_
  refine RunL.val (Val.load_one rfl (.head _) ty_3 rfl) rfl rfl rfl ?_
  refine RunL.val (Val.build (parts := [(0, .tmp 8), (1, .tmp 10)]) rfl zero_98 places_98 rfl) rfl rfl rfl ?_
  refine RunL.val (Val.build (parts := [(0, .const (.int .i64 0)), (1, .const (.int .i64 2000))]) rfl zero_98 places_98 rfl) rfl rfl rfl ?_
  refine RunL.new (New.buildSlice (parts := [(0, .tmp 12)]) rfl sl_139 zero_98 rfl rfl rfl rfl) rfl rfl rfl (fun b13 => ?_)
  refine RunL.callP (isCall_func rfl ent_71) rfl rfl rfl (fun w hm => narrowed_calls (_, _) [(_, _)] _ _ _ _ w (Sl.one (hm.at (.head _)) rfl) (by simp)) ?_
  refine RunL.val (Val.pure rfl) rfl rfl rfl ?_
  refine RunL.val (Val.pure rfl) rfl rfl rfl ?_
  refine RunL.sto (Sto.store rfl rfl (.there (.there .here)) ty_98 rfl rfl) rfl rfl ?_
  refine RunL.val (Val.pure rfl) rfl rfl rfl ?_
  refine RunL.nil ?_
  refine RunE.next ?_
  refine RunC.ret ?_
  exact RunE.retP (.r2 rfl (.agg rfl (.tail _ (.tail _ (.head _))) ty_98 rfl) (.tmp rfl)) (by first | rfl | simp)
theorem level_calls (p : Pr) (hp : p.Ok) (q : Option Addr) (cap : Nat) (pw : Int × Int) (t : Th) (ht : t.Ok) (bv : Nat) (W : World) (hV : W.heap[bv]? = some (.cells (vwCells p q cap pw).toArray 100 (0, 0))) :
    Calls Try.prog 87 #[.pointer (some ⟨bv, 0, none⟩), t.v] W (Pure (.bool (levelS p t)) W) := by
  obtain ⟨⟨h1, h2, h3⟩, ⟨h4, h5, h6⟩, ⟨h7, h8, h9⟩, ⟨h10, h11, h12⟩⟩ := ht
  have t1 := hp.t1
  have t2 := hp.t2
  refine calls_start Try.func87 rfl rfl ?_
  refine RunC.seq ?_
  refine RunC.region ?_
  refine RunL.new (New.box rfl) rfl rfl rfl (fun b3 => ?_)
  refine RunL.val (Val.pure rfl) rfl rfl rfl ?_
  refine RunL.nil ?_
  refine RunE.next ?_
  refine RunC.seq ?_
  refine RunC.region ?_
  refine RunL.val (Val.fieldAddr rfl fld_54_0) rfl rfl rfl ?_
  refine RunL.val (Val.fieldAddr rfl fld_52_1) rfl rfl rfl ?_
  refine RunL.val (Val.fieldAddr rfl fld_23_0) rfl rfl rfl ?_
  refine RunL.val (Val.load_one rfl (.head _) ty_3 rfl) rfl rfl rfl ?_
  refine RunL.val (Val.fieldAddr rfl fld_54_1) rfl rfl rfl ?_
  refine RunL.val (Val.fieldAddr rfl fld_52_1) rfl rfl rfl ?_
  refine RunL.val (Val.fieldAddr rfl fld_23_1) rfl rfl rfl ?_
  refine RunL.val (Val.load_one rfl (.head _) ty_3 rfl) rfl rfl rfl ?_
  refine RunL.val (Val.sub' rfl rfl (IntWalk.i64_in _ ⟨by omega, by omega⟩)) rfl rfl rfl ?_
  refine RunL.val (Val.fieldAddr rfl fld_54_0) rfl rfl rfl ?_
  refine RunL.val (Val.fieldAddr rfl fld_52_1) rfl rfl rfl ?_
  refine RunL.val (Val.fieldAddr rfl fld_23_1) rfl rfl rfl ?_
  refine RunL.val (Val.load_one rfl (.head _) ty_3 rfl) rfl rfl rfl ?_
  refine RunL.val (Val.fieldAddr rfl fld_54_1) rfl rfl rfl ?_
  refine RunL.val (Val.fieldAddr rfl fld_52_1) rfl rfl rfl ?_
  refine RunL.val (Val.fieldAddr rfl fld_23_0) rfl rfl rfl ?_
  refine RunL.val (Val.load_one rfl (.head _) ty_3 rfl) rfl rfl rfl ?_
  refine RunL.val (Val.sub' rfl rfl (IntWalk.i64_in _ ⟨by omega, by omega⟩)) rfl rfl rfl ?_
  refine RunL.val (Val.build (parts := [(0, .tmp 16), (1, .tmp 25)]) rfl zero_98 places_98 rfl) rfl rfl rfl ?_
  refine RunL.new (New.alloc zero_98) rfl rfl rfl (fun b5 => ?_)
  refine RunL.sto (Sto.store rfl rfl .here ty_98 rfl rfl) rfl rfl ?_
  refine RunL.nil ?_
  refine RunE.next ?_
  refine RunC.seq ?_
  apply RunC.drawJ (J := J2 _ _ _ _ _ _) 20 fol_ (.cons .here rfl (.cons .here rfl .nil))
  · refine RunA.val (i := 0) rfl (by kernel_rfl) (by kernel_rfl) (Val.load_agg rfl (.head _) ty_98 rfl) rfl rfl rfl (fun _ _ _ h => h) (.cons .here rfl (.cons .here rfl .nil)) rfl ?_
    refine RunA.val (i := 1) rfl (by kernel_rfl) (by kernel_rfl) (Val.pure rfl) rfl rfl rfl (fun _ _ _ h => h) (.cons .here rfl (.cons .here rfl .nil)) rfl ?_
    refine RunA.val (i := 2) rfl (by kernel_rfl) (by kernel_rfl) (Val.pure rfl) rfl rfl rfl (fun _ _ _ h => h) (.cons .here rfl (.cons .here rfl .nil)) rfl ?_
    refine RunA.val (i := 3) rfl (by kernel_rfl) (by kernel_rfl) (Val.fieldAddr rfl fld_100_0) rfl rfl rfl (fun _ _ _ h => h) (.cons .here rfl (.cons .here rfl .nil)) rfl ?_
    refine RunA.val (i := 4) rfl (by kernel_rfl) (by kernel_rfl) (Val.fieldAddr rfl fld_26_2) rfl rfl rfl (fun _ _ _ h => h) (.cons .here rfl (.cons .here rfl .nil)) rfl ?_
    refine RunA.val (i := 5) rfl (by kernel_rfl) (by kernel_rfl) (Val.oload_one rfl hV (by simp) ty_3 rfl) rfl rfl rfl (fun _ _ _ h => h) (.cons .here rfl (.cons .here rfl .nil)) rfl ?_
    refine RunA.val (i := 6) rfl (by kernel_rfl) (by kernel_rfl) (Val.neg rfl (IntWalk.i64_in _ ⟨by omega, by omega⟩)) rfl rfl rfl (fun _ _ _ h => h) (.cons .here rfl (.cons .here rfl .nil)) rfl ?_
    refine RunA.val (i := 7) rfl (by kernel_rfl) (by kernel_rfl) (Val.pure rfl) rfl rfl rfl (fun _ _ _ h => h) (.cons .here rfl (.cons .here rfl .nil)) rfl ?_
    refine RunA.val (i := 8) rfl (by kernel_rfl) (by kernel_rfl) (Val.pure rfl) rfl rfl rfl (fun _ _ _ h => h) (.cons .here rfl (.cons .here rfl .nil)) rfl ?_
    refine RunA.val (i := 9) rfl (by kernel_rfl) (by kernel_rfl) (Val.fieldAddr rfl fld_100_0) rfl rfl rfl (fun _ _ _ h => h) (.cons .here rfl (.cons .here rfl .nil)) rfl ?_
    refine RunA.val (i := 10) rfl (by kernel_rfl) (by kernel_rfl) (Val.fieldAddr rfl fld_26_2) rfl rfl rfl (fun _ _ _ h => h) (.cons .here rfl (.cons .here rfl .nil)) rfl ?_
    refine RunA.val (i := 11) rfl (by kernel_rfl) (by kernel_rfl) (Val.oload_one rfl hV (by simp) ty_3 rfl) rfl rfl rfl (fun _ _ _ h => h) (.cons .here rfl (.cons .here rfl .nil)) rfl ?_
    refine RunA.val (i := 12) rfl (by kernel_rfl) (by kernel_rfl) (Val.build (parts := [(0, .tmp 34), (1, .tmp 39)]) rfl zero_98 places_98 rfl) rfl rfl rfl (fun _ _ _ h => h) (.cons .here rfl (.cons .here rfl .nil)) rfl ?_
    refine RunA.all (rs := [13, 18]) (by kernel_rfl) (by simp) (by kernel_rfl) (fun m hm => ?_)
    simp only [List.mem_cons, List.not_mem_nil, or_false] at hm
    rcases hm with rfl | rfl
    · refine RunI.new rfl (New.buildSlice (parts := [(0, .tmp 40)]) rfl sl_139 zero_98 rfl rfl rfl rfl) rfl rfl rfl (fun b41 => (RunK.toA (.cons .here rfl (.cons .here rfl (.cons .here rfl .nil))) (.cons (.there .here) rfl (.cons (.there .here) rfl .nil)) rfl ?_))
      refine RunA.all (rs := [14, 18]) (by kernel_rfl) (by simp) (by kernel_rfl) (fun m hm => ?_)
      simp only [List.mem_cons, List.not_mem_nil, or_false] at hm
      rcases hm with rfl | rfl
      · refine RunI.callP rfl (isCall_func rfl ent_71) rfl rfl rfl (fun w hm => narrowed_calls (_, _) [(_, _)] _ _ _ _ w (Sl.one (hm.at (.head _)) rfl) (by simp)) (RunK.toA (.cons .here rfl (.cons .here rfl (.cons .here rfl .nil))) (.cons .here rfl (.cons .here rfl (.cons .here rfl .nil))) rfl ?_)
        refine RunA.val (i := 15) rfl (by kernel_rfl) (by kernel_rfl) (Val.pure rfl) rfl rfl rfl (fun _ _ _ h => h) (.cons .here rfl (.cons .here rfl (.cons .here rfl .nil))) rfl ?_
        refine RunA.val (i := 16) rfl (by kernel_rfl) (by kernel_rfl) (Val.pure rfl) rfl rfl rfl (fun _ _ _ h => h) (.cons .here rfl (.cons .here rfl (.cons .here rfl .nil))) rfl ?_
        refine RunA.val (i := 17) rfl (by kernel_rfl) (by kernel_rfl) (Val.pure rfl) rfl rfl rfl (fun _ _ _ h => h) (.cons .here rfl (.cons .here rfl (.cons .here rfl .nil))) rfl ?_
        refine RunA.one (i := 18) (by kernel_rfl) (by kernel_rfl) ?_
        refine RunI.new rfl (New.alloc zero_98) rfl rfl rfl (fun b6 => (RunK.toA (.cons (.there .here) rfl (.cons (.there .here) rfl (.cons (.there .here) rfl .nil))) (.cons .here rfl (.cons .here rfl (.cons .here rfl .nil))) rfl ?_))
        refine RunA.one (i := 19) (by kernel_rfl) (by kernel_rfl) ?_
        refine RunI.sto rfl (Sto.store rfl rfl .here ty_98 rfl rfl) rfl rfl (RunK.toA (.cons (.there .here) rfl (.cons (.there .here) rfl (.cons (.there .here) rfl .nil))) (.cons .here rfl (.cons .here rfl (.cons .here rfl .nil))) rfl ?_)
        refine RunA.toB (by kernel_rfl) ?_
        refine RunB.one (i := 20) (by kernel_rfl) ?_
        refine RunI.val rfl (Val.pure rfl) rfl rfl rfl (RunK.toB ?_)
        refine RunB.done (by kernel_rfl) ?_
        exact RunE.join2 b41 b6 (Sub.refl _) (Pick.refl _)
      · refine RunI.new rfl (New.alloc zero_98) rfl rfl rfl (fun b6 => (RunK.toA (.cons (.there .here) rfl (.cons (.there .here) rfl (.cons (.there .here) rfl .nil))) (.cons .here rfl (.cons .here rfl (.cons .here rfl .nil))) rfl ?_))
        refine RunA.one (i := 14) (by kernel_rfl) (by kernel_rfl) ?_
        refine RunI.callP rfl (isCall_func rfl ent_71) rfl rfl rfl (fun w hm => narrowed_calls (_, _) [(_, _)] _ _ _ _ w (Sl.one (hm.at (.tail _ (.head _))) rfl) (by simp)) (RunK.toA (.cons (.there .here) rfl (.cons (.there .here) rfl (.cons (.there .here) rfl .nil))) (.cons .here rfl (.cons .here rfl (.cons .here rfl .nil))) rfl ?_)
        refine RunA.val (i := 15) rfl (by kernel_rfl) (by kernel_rfl) (Val.pure rfl) rfl rfl rfl (fun _ _ _ h => h) (.cons (.there .here) rfl (.cons (.there .here) rfl (.cons (.there .here) rfl .nil))) rfl ?_
        refine RunA.val (i := 16) rfl (by kernel_rfl) (by kernel_rfl) (Val.pure rfl) rfl rfl rfl (fun _ _ _ h => h) (.cons (.there .here) rfl (.cons (.there .here) rfl (.cons (.there .here) rfl .nil))) rfl ?_
        refine RunA.val (i := 17) rfl (by kernel_rfl) (by kernel_rfl) (Val.pure rfl) rfl rfl rfl (fun _ _ _ h => h) (.cons (.there .here) rfl (.cons (.there .here) rfl (.cons (.there .here) rfl .nil))) rfl ?_
        refine RunA.one (i := 19) (by kernel_rfl) (by kernel_rfl) ?_
        refine RunI.sto rfl (Sto.store rfl rfl .here ty_98 rfl rfl) rfl rfl (RunK.toA (.cons (.there .here) rfl (.cons (.there .here) rfl (.cons (.there .here) rfl .nil))) (.cons .here rfl (.cons .here rfl (.cons .here rfl .nil))) rfl ?_)
        refine RunA.toB (by kernel_rfl) ?_
        refine RunB.one (i := 20) (by kernel_rfl) ?_
        refine RunI.val rfl (Val.pure rfl) rfl rfl rfl (RunK.toB ?_)
        refine RunB.done (by kernel_rfl) ?_
        exact RunE.join2 b41 b6 (Sub.cons (t := 7) rfl (Sub.cons (t := 6) rfl (Sub.cons (t := 44) rfl (Sub.cons (t := 43) rfl (Sub.cons (t := 27) rfl (Sub.cons (t := 42) rfl (Sub.cons (t := 41) rfl (Sub.cons (t := 40) rfl (Sub.cons (t := 39) rfl (Sub.cons (t := 38) rfl (Sub.cons (t := 37) rfl (Sub.cons (t := 36) rfl (Sub.cons (t := 35) rfl (Sub.cons (t := 34) rfl (Sub.cons (t := 33) rfl (Sub.cons (t := 32) rfl (Sub.cons (t := 31) rfl (Sub.cons (t := 30) rfl (Sub.cons (t := 29) rfl (Sub.cons (t := 28) rfl (Sub.skip rfl (Sub.skip rfl (Sub.skip rfl (Sub.skip rfl (Sub.skip rfl (Sub.skip rfl (Sub.skip rfl (Sub.skip rfl (Sub.skip rfl (Sub.skip rfl (Sub.skip rfl (Sub.skip rfl (Sub.skip rfl (Sub.skip rfl (Sub.skip rfl (Sub.skip rfl (Sub.skip rfl (Sub.skip rfl (Sub.skip rfl (Sub.skip rfl (Sub.refl _))))))))))))))))))))))))))))))))))))))))) (.cons .here rfl (.cons .here rfl (.cons .here rfl (.cons .here rfl .nil))))
    · refine RunI.new rfl (New.alloc zero_98) rfl rfl rfl (fun b6 => (RunK.toA (.cons (.there .here) rfl (.cons (.there .here) rfl .nil)) (.cons .here rfl (.cons .here rfl .nil)) rfl ?_))
      refine RunA.one (i := 13) (by kernel_rfl) (by kernel_rfl) ?_
      refine RunI.new rfl (New.buildSlice (parts := [(0, .tmp 40)]) rfl sl_139 zero_98 rfl rfl rfl rfl) rfl rfl rfl (fun b41 => (RunK.toA (.cons .here rfl (.cons (.there .here) rfl (.cons (.there .here) rfl .nil))) (.cons (.there .here) rfl (.cons (.there .here) rfl .nil)) rfl ?_))
      refine RunA.one (i := 14) (by kernel_rfl) (by kernel_rfl) ?_
      refine RunI.callP rfl (isCall_func rfl ent_71) rfl rfl rfl (fun w hm => narrowed_calls (_, _) [(_, _)] _ _ _ _ w (Sl.one (hm.at (.head _)) rfl) (by simp)) (RunK.toA (.cons .here rfl (.cons (.there .here) rfl (.cons (.there .here) rfl .nil))) (.cons .here rfl (.cons .here rfl (.cons .here rfl .nil))) rfl ?_)
      refine RunA.val (i := 15) rfl (by kernel_rfl) (by kernel_rfl) (Val.pure rfl) rfl rfl rfl (fun _ _ _ h => h) (.cons .here rfl (.cons (.there .here) rfl (.cons (.there .here) rfl .nil))) rfl ?_
      refine RunA.val (i := 16) rfl (by kernel_rfl) (by kernel_rfl) (Val.pure rfl) rfl rfl rfl (fun _ _ _ h => h) (.cons .here rfl (.cons (.there .here) rfl (.cons (.there .here) rfl .nil))) rfl ?_
      refine RunA.val (i := 17) rfl (by kernel_rfl) (by kernel_rfl) (Val.pure rfl) rfl rfl rfl (fun _ _ _ h => h) (.cons .here rfl (.cons (.there .here) rfl (.cons (.there .here) rfl .nil))) rfl ?_
      refine RunA.one (i := 19) (by kernel_rfl) (by kernel_rfl) ?_
      refine RunI.sto rfl (Sto.store rfl rfl (.there .here) ty_98 rfl rfl) rfl rfl (RunK.toA (.cons .here rfl (.cons (.there .here) rfl (.cons (.there .here) rfl .nil))) (.cons .here rfl (.cons .here rfl (.cons .here rfl .nil))) rfl ?_)
      refine RunA.toB (by kernel_rfl) ?_
      refine RunB.one (i := 20) (by kernel_rfl) ?_
      refine RunI.val rfl (Val.pure rfl) rfl rfl rfl (RunK.toB ?_)
      refine RunB.done (by kernel_rfl) ?_
      exact RunE.join2 b41 b6 (Sub.cons (t := 7) rfl (Sub.cons (t := 6) rfl (Sub.cons (t := 44) rfl (Sub.cons (t := 43) rfl (Sub.cons (t := 27) rfl (Sub.cons (t := 42) rfl (Sub.cons (t := 41) rfl (Sub.cons (t := 40) rfl (Sub.cons (t := 39) rfl (Sub.cons (t := 38) rfl (Sub.cons (t := 37) rfl (Sub.cons (t := 36) rfl (Sub.cons (t := 35) rfl (Sub.cons (t := 34) rfl (Sub.cons (t := 33) rfl (Sub.cons (t := 32) rfl (Sub.cons (t := 31) rfl (Sub.cons (t := 30) rfl (Sub.cons (t := 29) rfl (Sub.cons (t := 28) rfl (Sub.skip rfl (Sub.skip rfl (Sub.skip rfl (Sub.skip rfl (Sub.skip rfl (Sub.skip rfl (Sub.skip rfl (Sub.skip rfl (Sub.skip rfl (Sub.skip rfl (Sub.skip rfl (Sub.skip rfl (Sub.skip rfl (Sub.skip rfl (Sub.skip rfl (Sub.skip rfl (Sub.skip rfl (Sub.skip rfl (Sub.skip rfl (Sub.skip rfl (Sub.refl _))))))))))))))))))))))))))))))))))))))))) (.cons (.there .here) rfl (.cons .here rfl (.cons .here rfl (.cons .here rfl .nil))))
  refine J2.out (fun b41 b6 => ?_)
  refine RunE.next ?_
  refine RunC.seq ?_
  refine RunC.region ?_
  refine RunL.val (Val.pure rfl) rfl rfl rfl ?_
  refine RunL.val (Val.pure rfl) rfl rfl rfl ?_
  refine RunL.nil ?_
  refine RunE.next ?_
  refine RunC.ret ?_
  exact RunE.retP (.r1 rfl (.tmp rfl)) (by first | rfl | simp)
theorem of_mark (p : Pr) (q : Option Addr) (cap : Nat) (pw : Int × Int) (t : Th) (hf : t.far ≠ 0) (bv : Nat) (W : World) (_hV : W.heap[bv]? = some (.cells (vwCells p q cap pw).toArray 100 (0, 0))) :
    Calls Try.prog 88 #[.pointer (some ⟨bv, 0, none⟩), t.v] W (Pure (.iface 142 (.agg #[.int .i64 t.far])) W) := by
  refine calls_start Try.func88 rfl rfl ?_
  refine RunC.seq ?_
  refine RunC.region ?_
  refine RunL.new (New.box rfl) rfl rfl rfl (fun b3 => ?_)
  refine RunL.val (Val.pure rfl) rfl rfl rfl ?_
  refine RunL.nil ?_
  refine RunE.next ?_
  refine RunC.seq ?_
  refine RunC.seq ?_
  refine RunC.region ?_
  refine RunL.val (Val.fieldAddr rfl fld_54_2) rfl rfl rfl ?_
  refine RunL.val (Val.load_one rfl (.head _) ty_3 rfl) rfl rfl rfl ?_
  refine RunL.val (Val.pure rfl) rfl rfl rfl ?_
  refine RunL.nil ?_
  refine RunE.next ?_
  refine RunC.cond rfl ?_ (fun h => absurd h (by simpa using hf))
  intro c0
  clear c0
  refine RunC.seq ?_
  refine RunC.region ?_
  refine RunL.val (Val.fieldAddr rfl fld_54_2) rfl rfl rfl ?_
  refine RunL.val (Val.load_one rfl (.head _) ty_3 rfl) rfl rfl rfl ?_
  refine RunL.val (Val.build (parts := [(0, .tmp 9)]) rfl zero_142 places_142 rfl) rfl rfl rfl ?_
  refine RunL.val (Val.makeInterface rfl noif_142) rfl rfl rfl ?_
  refine RunL.val (Val.pure rfl) rfl rfl rfl ?_
  refine RunL.nil ?_
  refine RunE.next ?_
  refine RunC.ret ?_
  refine RunE.pass_ret ?_
  exact RunE.retP (.r1 rfl (.tmp rfl)) (by first | rfl | simp)
theorem of_other (p : Pr) (q : Option Addr) (cap : Nat) (pw : Int × Int) (t : Th) (hf : t.far = 0) (bv : Nat) (W : World) (hV : W.heap[bv]? = some (.cells (vwCells p q cap pw).toArray 100 (0, 0))) :
    Calls Try.prog 88 #[.pointer (some ⟨bv, 0, none⟩), t.v] W (Pure (.iface 144 (.agg #[.int .i64 p.near, .int .i64 p.far])) W) := by
  refine calls_start Try.func88 rfl rfl ?_
  refine RunC.seq ?_
  refine RunC.region ?_
  refine RunL.new (New.box rfl) rfl rfl rfl (fun b3 => ?_)
  refine RunL.val (Val.pure rfl) rfl rfl rfl ?_
  refine RunL.nil ?_
  refine RunE.next ?_
  refine RunC.seq ?_
  refine RunC.seq ?_
  refine RunC.region ?_
  refine RunL.val (Val.fieldAddr rfl fld_54_2) rfl rfl rfl ?_
  refine RunL.val (Val.load_one rfl (.head _) ty_3 rfl) rfl rfl rfl ?_
  refine RunL.val (Val.pure rfl) rfl rfl rfl ?_
  refine RunL.nil ?_
  refine RunE.next ?_
  refine RunC.cond rfl (fun h => absurd h (by simpa using hf)) ?_
  intro c0
  clear c0
  refine RunC.skip ?_
  refine RunE.next ?_
  refine RunC.seq ?_
  refine RunC.draw 10 fol_ (.cons .here rfl .nil) ?_
  refine RunA.val (i := 0) rfl (by kernel_rfl) (by kernel_rfl) (Val.pure rfl) rfl rfl rfl (fun _ _ _ h => h) (.cons .here rfl .nil) rfl ?_
  refine RunA.val (i := 1) rfl (by kernel_rfl) (by kernel_rfl) (Val.pure rfl) rfl rfl rfl (fun _ _ _ h => h) (.cons .here rfl .nil) rfl ?_
  refine RunA.val (i := 2) rfl (by kernel_rfl) (by kernel_rfl) (Val.fieldAddr rfl fld_100_0) rfl rfl rfl (fun _ _ _ h => h) (.cons .here rfl .nil) rfl ?_
  refine RunA.val (i := 3) rfl (by kernel_rfl) (by kernel_rfl) (Val.fieldAddr rfl fld_26_3) rfl rfl rfl (fun _ _ _ h => h) (.cons .here rfl .nil) rfl ?_
  refine RunA.val (i := 4) rfl (by kernel_rfl) (by kernel_rfl) (Val.oload_one rfl hV (by simp) ty_3 rfl) rfl rfl rfl (fun _ _ _ h => h) (.cons .here rfl .nil) rfl ?_
  refine RunA.val (i := 5) rfl (by kernel_rfl) (by kernel_rfl) (Val.pure rfl) rfl rfl rfl (fun _ _ _ h => h) (.cons .here rfl .nil) rfl ?_
  refine RunA.val (i := 6) rfl (by kernel_rfl) (by kernel_rfl) (Val.pure rfl) rfl rfl rfl (fun _ _ _ h => h) (.cons .here rfl .nil) rfl ?_
  refine RunA.val (i := 7) rfl (by kernel_rfl) (by kernel_rfl) (Val.fieldAddr rfl fld_100_0) rfl rfl rfl (fun _ _ _ h => h) (.cons .here rfl .nil) rfl ?_
  refine RunA.val (i := 8) rfl (by kernel_rfl) (by kernel_rfl) (Val.fieldAddr rfl fld_26_4) rfl rfl rfl (fun _ _ _ h => h) (.cons .here rfl .nil) rfl ?_
  refine RunA.val (i := 9) rfl (by kernel_rfl) (by kernel_rfl) (Val.oload_one rfl hV (by simp) ty_3 rfl) rfl rfl rfl (fun _ _ _ h => h) (.cons .here rfl .nil) rfl ?_
  refine RunA.toB (by kernel_rfl) ?_
  refine RunB.one (i := 10) (by kernel_rfl) ?_
  refine RunI.val rfl (Val.build (parts := [(0, .tmp 16), (1, .tmp 21)]) rfl zero_144 places_144 rfl) rfl rfl rfl (RunK.toB ?_)
  refine RunB.one (i := 11) (by kernel_rfl) ?_
  refine RunI.val rfl (Val.makeInterface rfl noif_144) rfl rfl rfl (RunK.toB ?_)
  refine RunB.one (i := 12) (by kernel_rfl) ?_
  refine RunI.val rfl (Val.pure rfl) rfl rfl rfl (RunK.toB ?_)
  refine RunB.done (by kernel_rfl) ?_
  refine RunE.next ?_
  refine RunC.ret ?_
  exact RunE.retP (.r1 rfl (.tmp rfl)) (by first | rfl | simp)
theorem mark_calls (f : Int) (h0 : 0 ≤ f) (h1 : f ≤ 1073741824) (s : Int × Int) (g0 : 0 ≤ s.1) (g1 : s.1 ≤ s.2) (g2 : s.2 ≤ 2000) (W : World) :
    Calls Try.prog 127 #[.agg #[.int .i64 f], .agg #[.int .i64 s.1, .int .i64 s.2]] W (Pure (b2v (s.1 * f, (s.2 + 1) * f - 1)) W) := by
  have m1 := mul_bd g0 (Int.le_trans g1 g2) h0 h1
  have m2 := mul_bd (a := s.2 + 1) (A := 2001) (by omega) (by omega) h0 h1
  refine calls_start Try.func127 rfl rfl ?_
  refine RunC.seq ?_
  refine RunC.region ?_
  refine RunL.new (New.box rfl) rfl rfl rfl (fun b2 => ?_)
  refine RunL.new (New.box rfl) rfl rfl rfl (fun b3 => ?_)
  refine RunL.new (New.alloc zero_98) rfl rfl rfl (fun b4 => ?_)
  refine RunL.nil ?_
  refine RunE.next ?_
  refine RunC.seq ?_
  refine RunC.region ?_
  refine RunL.val (Val.indexAddr_arr rfl rfl arr_98 (by decide) (by decide)) rfl rfl rfl ?_
  refine RunL.val (Val.load_one rfl (.tail _ (.head _)) ty_3 rfl) rfl rfl rfl ?_
  refine RunL.val (Val.fieldAddr rfl fld_142_0) rfl rfl rfl ?_
  refine RunL.val (Val.load_one rfl (.tail _ (.tail _ (.head _))) ty_3 rfl) rfl rfl rfl ?_
  refine RunL.val (Val.mul rfl rfl (IntWalk.i64_in _ ⟨by omega, by omega⟩)) rfl rfl rfl ?_
  refine RunL.val (Val.indexAddr_arr rfl rfl arr_98 (by decide) (by decide)) rfl rfl rfl ?_
  refine RunL.val (Val.load_one rfl (.tail _ (.head _)) ty_3 rfl) rfl rfl rfl ?_
  refine RunL.val (Val.add rfl rfl (IntWalk.i64_in _ ⟨by omega, by omega⟩)) rfl rfl rfl ?_
  refine RunL.val (Val.fieldAddr rfl fld_142_0) rfl rfl rfl ?_
  refine RunL.val (Val.load_one rfl (.tail _ (.tail _ (.head _))) ty_3 rfl) rfl rfl rfl ?_
  refine RunL.val (Val.mul rfl rfl (IntWalk.i64_in _ ⟨by omega, by omega⟩)) rfl rfl rfl ?_
  refine RunL.val (Val.sub' rfl rfl (IntWalk.i64_in _ ⟨by omega, by omega⟩)) rfl rfl rfl ?_
  refine RunL.val (Val.build (parts := [(0, .tmp 9), (1, .tmp 16)]) rfl zero_98 places_98 rfl) rfl rfl rfl ?_
  refine RunL.sto (Sto.store rfl rfl .here ty_98 rfl rfl) rfl rfl ?_
  refine RunL.nil ?_
  refine RunE.next ?_
  refine RunC.ret ?_
  exact RunE.retP (.r1 rfl (.agg rfl (.head _) ty_98 rfl)) (by first | rfl | simp)
theorem other_calls (f f' : Int) (h0 : 0 ≤ f) (h1 : f ≤ 1073741824) (h0' : 0 ≤ f') (h1' : f' ≤ 1073741824) (s : Int × Int) (g0 : 0 ≤ s.1) (g1 : s.1 ≤ s.2) (g2 : s.2 ≤ 2000) (W : World) :
    Calls Try.prog 128 #[.agg #[.int .i64 f, .int .i64 f'], .agg #[.int .i64 s.1, .int .i64 s.2]] W (Pure (b2v (s.1 * f, (s.2 + 1) * f' - 1)) W) := by
  have m1 := mul_bd g0 (Int.le_trans g1 g2) h0 h1
  have m2 := mul_bd (a := s.2 + 1) (A := 2001) (by omega) (by omega) h0' h1'
  refine calls_start Try.func128 rfl rfl ?_
  refine RunC.seq ?_
  refine RunC.region ?_
  refine RunL.new (New.box rfl) rfl rfl rfl (fun b2 => ?_)
  refine RunL.new (New.box rfl) rfl rfl rfl (fun b3 => ?_)
  refine RunL.new (New.alloc zero_98) rfl rfl rfl (fun b4 => ?_)
  refine RunL.nil ?_
  refine RunE.next ?_
  refine RunC.seq ?_
  refine RunC.region ?_
  refine RunL.val (Val.indexAddr_arr rfl rfl arr_98 (by decide) (by decide)) rfl rfl rfl ?_
  refine RunL.val (Val.load_one rfl (.tail _ (.head _)) ty_3 rfl) rfl rfl rfl ?_
  refine RunL.val (Val.fieldAddr rfl fld_144_0) rfl rfl rfl ?_
  refine RunL.val (Val.load_one rfl (.tail _ (.tail _ (.head _))) ty_3 rfl) rfl rfl rfl ?_
  refine RunL.val (Val.mul rfl rfl (IntWalk.i64_in _ ⟨by omega, by omega⟩)) rfl rfl rfl ?_
  refine RunL.val (Val.indexAddr_arr rfl rfl arr_98 (by decide) (by decide)) rfl rfl rfl ?_
  refine RunL.val (Val.load_one rfl (.tail _ (.head _)) ty_3 rfl) rfl rfl rfl ?_
  refine RunL.val (Val.add rfl rfl (IntWalk.i64_in _ ⟨by omega, by omega⟩)) rfl rfl rfl ?_
  refine RunL.val (Val.fieldAddr rfl fld_144_1) rfl rfl rfl ?_
  refine RunL.val (Val.load_one rfl (.tail _ (.tail _ (.head _))) ty_3 rfl) rfl rfl rfl ?_
  refine RunL.val (Val.mul rfl rfl (IntWalk.i64_in _ ⟨by omega, by omega⟩)) rfl rfl rfl ?_
  refine RunL.val (Val.sub' rfl rfl (IntWalk.i64_in _ ⟨by omega, by omega⟩)) rfl rfl rfl ?_
  refine RunL.val (Val.build (parts := [(0, .tmp 9), (1, .tmp 16)]) rfl zero_98 places_98 rfl) rfl rfl rfl ?_
  refine RunL.sto (Sto.store rfl rfl .here ty_98 rfl rfl) rfl rfl ?_
  refine RunL.nil ?_
  refine RunE.next ?_
  refine RunC.ret ?_
  exact RunE.retP (.r1 rfl (.agg rfl (.head _) ty_98 rfl)) (by first | rfl | simp)
/-- A thing stands still, or not. -/
theorem still_calls (p : Pr) (hp : p.Ok) (q : Option Addr) (cap : Nat) (pw : Int × Int) (t : Th) (ht : t.Ok) (hf : t.far = 0 ∨ (p.near ≤ t.far ∧ t.far ≤ p.far)) (w0 : Int × Int) (bv : Nat) (W : World) (hV : W.heap[bv]? = some (.cells (vwCells p q cap pw).toArray 100 (0, 0))) :
    Calls Try.prog 68 #[.pointer (some ⟨bv, 0, none⟩), t.v, .agg #[.int .i64 w0.1, .int .i64 w0.2]] W (Pure (.tuple #[b2v (stillS p t w0).1, .bool (stillS p t w0).2]) W) := by
  have n1 := hp.n1
  have n2 := hp.n2
  have n3 := hp.n3
  by_cases h0 : t.far = 0
  · refine calls_start Try.func68 rfl rfl ?_
    refine RunC.seq ?_
    refine RunC.region ?_
    refine RunL.new (New.box rfl) rfl rfl rfl (fun b4 => ?_)
    refine RunL.new (New.box rfl) rfl rfl rfl (fun b5 => ?_)
    refine RunL.new (New.alloc zero_98) rfl rfl rfl (fun b6 => ?_)
    refine RunL.val (Val.pure rfl) rfl rfl rfl ?_
    refine RunL.nil ?_
    refine RunE.next ?_
    refine RunC.seq ?_
    refine RunC.region ?_
    refine RunL.val (Val.load_agg rfl (.tail _ (.tail _ (.head _))) ty_54 rfl) rfl rfl rfl ?_
    refine RunL.callP (isCall_func rfl ent_70) rfl rfl rfl (fun w hm => shown_calls t ht w) ?_
    iterate 3 refine RunL.val (Val.pure rfl) rfl rfl rfl ?_
    refine RunL.new (New.alloc zero_98) rfl rfl rfl (fun b8 => ?_)
    refine RunL.sto (Sto.store rfl rfl .here ty_98 rfl rfl) rfl rfl ?_
    refine RunL.val (Val.pure rfl) rfl rfl rfl ?_
    refine RunL.nil ?_
    refine RunE.next ?_
    refine RunC.seq ?_
    refine RunC.seq ?_
    refine RunC.region ?_
    iterate 3 refine RunL.val (Val.pure rfl) rfl rfl rfl ?_
    refine RunL.orPart (dj := 17) (dp := 22) 5 rfl (fun g17 => by
      have g17' := g17
      try simp only [decide_eq_true_eq, decide_eq_false_iff_not, Bool.not_eq_true', Bool.not_eq_false', Bool.and_eq_true, Bool.or_eq_true, Bool.and_eq_false_iff, Bool.or_eq_false_iff, Int.not_le, Int.not_lt] at g17'
      refine RunL.val (Val.pure rfl) rfl rfl rfl ?_
      refine RunL.val (Val.load_agg rfl (.tail _ (.tail _ (.tail _ (.head _)))) ty_54 rfl) rfl rfl rfl ?_
      refine RunL.callP (isCall_func rfl ent_87) rfl rfl rfl (fun w hm => level_calls p hp q cap pw t ht bv w (hm.old_at hV (by simp))) ?_
      refine RunL.val (Val.pure rfl) rfl rfl rfl ?_
      refine RunL.val (Val.pure rfl) rfl rfl rfl ?_
      exact RunL.segEnd (Sub.cons rfl (Sub.skip rfl (Sub.skip rfl (Sub.skip rfl (Sub.skip rfl (Sub.skip rfl (Sub.same rfl (by rw [g17]) (Sub.refl _)))))))) (List.Sublist.refl _)
    ) (fun g17 => by
      have g17' := g17
      try simp only [decide_eq_true_eq, decide_eq_false_iff_not, Bool.not_eq_true', Bool.not_eq_false', Bool.and_eq_true, Bool.or_eq_true, Bool.and_eq_false_iff, Bool.or_eq_false_iff, Int.not_le, Int.not_lt] at g17'
      iterate 4 refine RunL.no rfl rfl rfl ?_
      refine RunL.val (Val.pure rfl) rfl rfl rfl ?_
      exact RunL.segEnd (Sub.cons rfl (Sub.skip rfl (Sub.skip rfl (Sub.skip rfl (Sub.skip rfl (Sub.skip rfl (Sub.same rfl (by rw [g17]) (Sub.refl _)))))))) (List.Sublist.refl _)
    ) ?_
    refine RunL.nil ?_
    refine RunE.next ?_
    refine RunC.cond rfl ?_ ?_
    · intro c0
      have c0' := c0; clear c0
      try simp only [decide_eq_true_eq, decide_eq_false_iff_not, Bool.not_eq_true', Bool.not_eq_false', Bool.and_eq_true, Bool.or_eq_true, Bool.and_eq_false_iff, Bool.or_eq_false_iff, Int.not_le, Int.not_lt] at c0'
      refine RunC.seq ?_
      refine RunC.region ?_
      refine RunL.val (Val.load_agg rfl (.tail _ (.tail _ (.head _))) ty_98 rfl) rfl rfl rfl ?_
      refine RunL.sto (Sto.store rfl rfl (.there .here) ty_98 rfl rfl) rfl rfl ?_
      refine RunL.val (Val.pure rfl) rfl rfl rfl ?_
      refine RunL.nil ?_
      refine RunE.next ?_
      refine RunC.ret ?_
      refine RunE.pass_ret ?_
      exact RunE.retP (.r2 rfl (.agg rfl (.tail _ (.head _)) ty_98 rfl) (.tmp rfl)) (by have e : stillS p t w0 = (w0, false) := (by rcases c0' with h | h <;> simp [stillS, h]); rw [e]; rfl)
    · intro c0
      have c0' := c0; clear c0
      try simp only [decide_eq_true_eq, decide_eq_false_iff_not, Bool.not_eq_true', Bool.not_eq_false', Bool.and_eq_true, Bool.or_eq_true, Bool.and_eq_false_iff, Bool.or_eq_false_iff, Int.not_le, Int.not_lt] at c0'
      have bd := shown_bd c0'.1
      refine RunC.skip ?_
      refine RunE.next ?_
      refine RunC.seq ?_
      refine RunC.draw 10 fol_ (.cons .here rfl (.cons .here rfl (.cons .here rfl (.cons .here rfl .nil)))) ?_
      refine RunA.val (i := 0) rfl (by kernel_rfl) (by kernel_rfl) (Val.load_agg rfl (.tail _ (.tail _ (.head _))) ty_98 rfl) rfl rfl rfl (fun _ _ _ h => h) (.cons .here rfl (.cons .here rfl (.cons .here rfl (.cons .here rfl .nil)))) rfl ?_
      refine RunA.val (i := 1) rfl (by kernel_rfl) (by kernel_rfl) (Val.pure rfl) rfl rfl rfl (fun _ _ _ h => h) (.cons .here rfl (.cons .here rfl (.cons .here rfl (.cons .here rfl .nil)))) rfl ?_
      refine RunA.val (i := 2) rfl (by kernel_rfl) (by kernel_rfl) (Val.load_agg rfl (.tail _ (.tail _ (.tail _ (.head _)))) ty_54 rfl) rfl rfl rfl (fun _ _ _ h => h) (.cons .here rfl (.cons .here rfl (.cons .here rfl (.cons .here rfl .nil)))) rfl ?_
      refine RunA.val (i := 4) rfl (by kernel_rfl) (by kernel_rfl) (Val.load_agg rfl (.head _) ty_98 rfl) rfl rfl rfl (fun _ _ _ h => h) (.cons .here rfl (.cons .here rfl (.cons .here rfl (.cons .here rfl .nil)))) rfl ?_
      refine RunA.one (i := 3) (by kernel_rfl) (by kernel_rfl) ?_
      refine RunI.callP rfl (isCall_func rfl ent_88) rfl rfl rfl (fun w hm => of_other p q cap pw t h0 bv w (hm.old_at hV (by simp))) (RunK.toA (.cons .here rfl (.cons .here rfl (.cons .here rfl (.cons .here rfl .nil)))) (.cons .here rfl (.cons .here rfl (.cons .here rfl (.cons .here rfl .nil)))) rfl ?_)
      refine RunA.one (i := 5) (by kernel_rfl) (by kernel_rfl) ?_
      refine RunI.callP rfl (isCall_invoke rfl rfl (fun w => meth_144_pairworks_pair_powers _ w) ent_128) rfl rfl rfl (fun w hm => other_calls _ _ (by omega) (by omega) (by omega) (by omega) (shownS t) bd.1 bd.2.1 bd.2.2 w) (RunK.toA (.cons .here rfl (.cons .here rfl (.cons .here rfl (.cons .here rfl .nil)))) (.cons .here rfl (.cons .here rfl (.cons .here rfl (.cons .here rfl .nil)))) rfl ?_)
      refine RunA.one (i := 6) (by kernel_rfl) (by kernel_rfl) ?_
      refine RunI.new rfl (New.buildSlice (parts := [(0, .tmp 29)]) rfl sl_139 zero_98 rfl rfl rfl rfl) rfl rfl rfl (fun b30 => (RunK.toA (.cons .here rfl (.cons .here rfl (.cons .here rfl (.cons .here rfl (.cons .here rfl .nil))))) (.cons (.there .here) rfl (.cons (.there .here) rfl (.cons (.there .here) rfl (.cons (.there .here) rfl .nil)))) rfl ?_))
      refine RunA.one (i := 7) (by kernel_rfl) (by kernel_rfl) ?_
      refine RunI.callP rfl (isCall_func rfl ent_71) rfl rfl rfl (fun w hm => narrowed_calls (_, _) [(_, _)] _ _ _ _ w (Sl.one (hm.at (.head _)) rfl) (by simp)) (RunK.toA (.cons .here rfl (.cons .here rfl (.cons .here rfl (.cons .here rfl (.cons .here rfl .nil))))) (.cons .here rfl (.cons .here rfl (.cons .here rfl (.cons .here rfl (.cons .here rfl .nil))))) rfl ?_)
      refine RunA.val (i := 8) rfl (by kernel_rfl) (by kernel_rfl) (Val.pure rfl) rfl rfl rfl (fun _ _ _ h => h) (.cons .here rfl (.cons .here rfl (.cons .here rfl (.cons .here rfl (.cons .here rfl .nil))))) rfl ?_
      refine RunA.val (i := 9) rfl (by kernel_rfl) (by kernel_rfl) (Val.pure rfl) rfl rfl rfl (fun _ _ _ h => h) (.cons .here rfl (.cons .here rfl (.cons .here rfl (.cons .here rfl (.cons .here rfl .nil))))) rfl ?_
      refine RunA.toB (by kernel_rfl) ?_
      refine RunB.one (i := 10) (by kernel_rfl) ?_
      refine RunI.sto rfl (Sto.store rfl rfl (.there (.there .here)) ty_98 rfl rfl) rfl rfl (RunK.toB ?_)
      refine RunB.one (i := 11) (by kernel_rfl) ?_
      refine RunI.val rfl (Val.pure rfl) rfl rfl rfl (RunK.toB ?_)
      refine RunB.done (by kernel_rfl) ?_
      refine RunE.next ?_
      refine RunC.ret ?_
      exact RunE.retP (.r2 rfl (.agg rfl (.tail _ (.tail _ (.head _))) ty_98 rfl) (.tmp rfl)) (by have e : stillS p t w0 = (nar w0 (powersS p t (shownS t)), isB (nar w0 (powersS p t (shownS t)))) := (by simp [stillS, c0'.1, c0'.2]); rw [e]; simp only [powersS, h0, if_true]; rfl)
  · refine calls_start Try.func68 rfl rfl ?_
    refine RunC.seq ?_
    refine RunC.region ?_
    refine RunL.new (New.box rfl) rfl rfl rfl (fun b4 => ?_)
    refine RunL.new (New.box rfl) rfl rfl rfl (fun b5 => ?_)
    refine RunL.new (New.alloc zero_98) rfl rfl rfl (fun b6 => ?_)
    refine RunL.val (Val.pure rfl) rfl rfl rfl ?_
    refine RunL.nil ?_
    refine RunE.next ?_
    refine RunC.seq ?_
    refine RunC.region ?_
    refine RunL.val (Val.load_agg rfl (.tail _ (.tail _ (.head _))) ty_54 rfl) rfl rfl rfl ?_
    refine RunL.callP (isCall_func rfl ent_70) rfl rfl rfl (fun w hm => shown_calls t ht w) ?_
    iterate 3 refine RunL.val (Val.pure rfl) rfl rfl rfl ?_
    refine RunL.new (New.alloc zero_98) rfl rfl rfl (fun b8 => ?_)
    refine RunL.sto (Sto.store rfl rfl .here ty_98 rfl rfl) rfl rfl ?_
    refine RunL.val (Val.pure rfl) rfl rfl rfl ?_
    refine RunL.nil ?_
    refine RunE.next ?_
    refine RunC.seq ?_
    refine RunC.seq ?_
    refine RunC.region ?_
    iterate 3 refine RunL.val (Val.pure rfl) rfl rfl rfl ?_
    refine RunL.orPart (dj := 17) (dp := 22) 5 rfl (fun g17 => by
      have g17' := g17
      try simp only [decide_eq_true_eq, decide_eq_false_iff_not, Bool.not_eq_true', Bool.not_eq_false', Bool.and_eq_true, Bool.or_eq_true, Bool.and_eq_false_iff, Bool.or_eq_false_iff, Int.not_le, Int.not_lt] at g17'
      refine RunL.val (Val.pure rfl) rfl rfl rfl ?_
      refine RunL.val (Val.load_agg rfl (.tail _ (.tail _ (.tail _ (.head _)))) ty_54 rfl) rfl rfl rfl ?_
      refine RunL.callP (isCall_func rfl ent_87) rfl rfl rfl (fun w hm => level_calls p hp q cap pw t ht bv w (hm.old_at hV (by simp))) ?_
      refine RunL.val (Val.pure rfl) rfl rfl rfl ?_
      refine RunL.val (Val.pure rfl) rfl rfl rfl ?_
      exact RunL.segEnd (Sub.cons rfl (Sub.skip rfl (Sub.skip rfl (Sub.skip rfl (Sub.skip rfl (Sub.skip rfl (Sub.same rfl (by rw [g17]) (Sub.refl _)))))))) (List.Sublist.refl _)
    ) (fun g17 => by
      have g17' := g17
      try simp only [decide_eq_true_eq, decide_eq_false_iff_not, Bool.not_eq_true', Bool.not_eq_false', Bool.and_eq_true, Bool.or_eq_true, Bool.and_eq_false_iff, Bool.or_eq_false_iff, Int.not_le, Int.not_lt] at g17'
      iterate 4 refine RunL.no rfl rfl rfl ?_
      refine RunL.val (Val.pure rfl) rfl rfl rfl ?_
      exact RunL.segEnd (Sub.cons rfl (Sub.skip rfl (Sub.skip rfl (Sub.skip rfl (Sub.skip rfl (Sub.skip rfl (Sub.same rfl (by rw [g17]) (Sub.refl _)))))))) (List.Sublist.refl _)
    ) ?_
    refine RunL.nil ?_
    refine RunE.next ?_
    refine RunC.cond rfl ?_ ?_
    · intro c0
      have c0' := c0; clear c0
      try simp only [decide_eq_true_eq, decide_eq_false_iff_not, Bool.not_eq_true', Bool.not_eq_false', Bool.and_eq_true, Bool.or_eq_true, Bool.and_eq_false_iff, Bool.or_eq_false_iff, Int.not_le, Int.not_lt] at c0'
      refine RunC.seq ?_
      refine RunC.region ?_
      refine RunL.val (Val.load_agg rfl (.tail _ (.tail _ (.head _))) ty_98 rfl) rfl rfl rfl ?_
      refine RunL.sto (Sto.store rfl rfl (.there .here) ty_98 rfl rfl) rfl rfl ?_
      refine RunL.val (Val.pure rfl) rfl rfl rfl ?_
      refine RunL.nil ?_
      refine RunE.next ?_
      refine RunC.ret ?_
      refine RunE.pass_ret ?_
      exact RunE.retP (.r2 rfl (.agg rfl (.tail _ (.head _)) ty_98 rfl) (.tmp rfl)) (by have e : stillS p t w0 = (w0, false) := (by rcases c0' with h | h <;> simp [stillS, h]); rw [e]; rfl)
    · intro c0
      have c0' := c0; clear c0
      try simp only [decide_eq_true_eq, decide_eq_false_iff_not, Bool.not_eq_true', Bool.not_eq_false', Bool.and_eq_true, Bool.or_eq_true, Bool.and_eq_false_iff, Bool.or_eq_false_iff, Int.not_le, Int.not_lt] at c0'
      have bd := shown_bd c0'.1
      refine RunC.skip ?_
      refine RunE.next ?_
      refine RunC.seq ?_
      refine RunC.draw 10 fol_ (.cons .here rfl (.cons .here rfl (.cons .here rfl (.cons .here rfl .nil)))) ?_
      refine RunA.val (i := 0) rfl (by kernel_rfl) (by kernel_rfl) (Val.load_agg rfl (.tail _ (.tail _ (.head _))) ty_98 rfl) rfl rfl rfl (fun _ _ _ h => h) (.cons .here rfl (.cons .here rfl (.cons .here rfl (.cons .here rfl .nil)))) rfl ?_
      refine RunA.val (i := 1) rfl (by kernel_rfl) (by kernel_rfl) (Val.pure rfl) rfl rfl rfl (fun _ _ _ h => h) (.cons .here rfl (.cons .here rfl (.cons .here rfl (.cons .here rfl .nil)))) rfl ?_
      refine RunA.val (i := 2) rfl (by kernel_rfl) (by kernel_rfl) (Val.load_agg rfl (.tail _ (.tail _ (.tail _ (.head _)))) ty_54 rfl) rfl rfl rfl (fun _ _ _ h => h) (.cons .here rfl (.cons .here rfl (.cons .here rfl (.cons .here rfl .nil)))) rfl ?_
      refine RunA.val (i := 4) rfl (by kernel_rfl) (by kernel_rfl) (Val.load_agg rfl (.head _) ty_98 rfl) rfl rfl rfl (fun _ _ _ h => h) (.cons .here rfl (.cons .here rfl (.cons .here rfl (.cons .here rfl .nil)))) rfl ?_
      refine RunA.one (i := 3) (by kernel_rfl) (by kernel_rfl) ?_
      refine RunI.callP rfl (isCall_func rfl ent_88) rfl rfl rfl (fun w hm => of_mark p q cap pw t h0 bv w (hm.old_at hV (by simp))) (RunK.toA (.cons .here rfl (.cons .here rfl (.cons .here rfl (.cons .here rfl .nil)))) (.cons .here rfl (.cons .here rfl (.cons .here rfl (.cons .here rfl .nil)))) rfl ?_)
      refine RunA.one (i := 5) (by kernel_rfl) (by kernel_rfl) ?_
      refine RunI.callP rfl (isCall_invoke rfl rfl (fun w => meth_142_pairworks_pair_powers _ w) ent_127) rfl rfl rfl (fun w hm => mark_calls _ (by omega) (by omega) (shownS t) bd.1 bd.2.1 bd.2.2 w) (RunK.toA (.cons .here rfl (.cons .here rfl (.cons .here rfl (.cons .here rfl .nil)))) (.cons .here rfl (.cons .here rfl (.cons .here rfl (.cons .here rfl .nil)))) rfl ?_)
      refine RunA.one (i := 6) (by kernel_rfl) (by kernel_rfl) ?_
      refine RunI.new rfl (New.buildSlice (parts := [(0, .tmp 29)]) rfl sl_139 zero_98 rfl rfl rfl rfl) rfl rfl rfl (fun b30 => (RunK.toA (.cons .here rfl (.cons .here rfl (.cons .here rfl (.cons .here rfl (.cons .here rfl .nil))))) (.cons (.there .here) rfl (.cons (.there .here) rfl (.cons (.there .here) rfl (.cons (.there .here) rfl .nil)))) rfl ?_))
      refine RunA.one (i := 7) (by kernel_rfl) (by kernel_rfl) ?_
      refine RunI.callP rfl (isCall_func rfl ent_71) rfl rfl rfl (fun w hm => narrowed_calls (_, _) [(_, _)] _ _ _ _ w (Sl.one (hm.at (.head _)) rfl) (by simp)) (RunK.toA (.cons .here rfl (.cons .here rfl (.cons .here rfl (.cons .here rfl (.cons .here rfl .nil))))) (.cons .here rfl (.cons .here rfl (.cons .here rfl (.cons .here rfl (.cons .here rfl .nil))))) rfl ?_)
      refine RunA.val (i := 8) rfl (by kernel_rfl) (by kernel_rfl) (Val.pure rfl) rfl rfl rfl (fun _ _ _ h => h) (.cons .here rfl (.cons .here rfl (.cons .here rfl (.cons .here rfl (.cons .here rfl .nil))))) rfl ?_
      refine RunA.val (i := 9) rfl (by kernel_rfl) (by kernel_rfl) (Val.pure rfl) rfl rfl rfl (fun _ _ _ h => h) (.cons .here rfl (.cons .here rfl (.cons .here rfl (.cons .here rfl (.cons .here rfl .nil))))) rfl ?_
      refine RunA.toB (by kernel_rfl) ?_
      refine RunB.one (i := 10) (by kernel_rfl) ?_
      refine RunI.sto rfl (Sto.store rfl rfl (.there (.there .here)) ty_98 rfl rfl) rfl rfl (RunK.toB ?_)
      refine RunB.one (i := 11) (by kernel_rfl) ?_
      refine RunI.val rfl (Val.pure rfl) rfl rfl rfl (RunK.toB ?_)
      refine RunB.done (by kernel_rfl) ?_
      refine RunE.next ?_
      refine RunC.ret ?_
      exact RunE.retP (.r2 rfl (.agg rfl (.tail _ (.tail _ (.head _))) ty_98 rfl) (.tmp rfl)) (by have e : stillS p t w0 = (nar w0 (powersS p t (shownS t)), isB (nar w0 (powersS p t (shownS t)))) := (by simp [stillS, c0'.1, c0'.2]); rw [e]; simp only [powersS, h0, if_false]; rfl)
end Go.Proofs.Ytjijeeadmhpfcaa
/- Walks of package pair: opening a pair, and its powers. -/
set_option linter.unusedSimpArgs false
set_option linter.unusedVariables false
namespace Go.Proofs.Ytjijeeadmhpfcaa
open Go Go.Eng Go.Pw1

def misf (k : Int) : Value := .iface 131 (.agg #[.int .i64 k])
theorem need_calls (b : Bool) (e : Int) (W : World) : Calls Try.prog 69 #[.bool b, .int .i64 e] W (Try misf (needX b e) W) := by
  refine calls_start Try.func69 rfl rfl ?_
  refine RunC.seq ?_
  refine RunC.region ?_
  refine RunL.val (Val.pure rfl) rfl rfl rfl ?_
  refine RunL.val (Val.pure rfl) rfl rfl rfl ?_
  refine RunL.nil ?_
  refine RunE.next ?_
  refine RunC.cond rfl ?_ ?_
  · intro c0
    have c0' := c0; clear c0
    try simp only [decide_eq_true_eq, decide_eq_false_iff_not, Bool.not_eq_true', Bool.not_eq_false', Bool.and_eq_true, Bool.or_eq_true, Bool.and_eq_false_iff, Bool.or_eq_false_iff, Int.not_le, Int.not_lt] at c0'
    refine RunC.region ?_
    refine RunL.val (Val.pure rfl) rfl rfl rfl ?_
    refine RunL.val (Val.build (parts := [(0, .tmp 6)]) rfl zero_131 places_131 rfl) rfl rfl rfl ?_
    refine RunL.val (Val.makeInterface rfl noif_131) rfl rfl rfl ?_
    refine RunL.panicOp rfl ?_
    exact RunE.panicT (k := e) (by simp [needX, show b = false by simpa using c0'])
  · intro c0
    have c0' := c0; clear c0
    try simp only [decide_eq_true_eq, decide_eq_false_iff_not, Bool.not_eq_true', Bool.not_eq_false', Bool.and_eq_true, Bool.or_eq_true, Bool.and_eq_false_iff, Bool.or_eq_false_iff, Int.not_le, Int.not_lt] at c0'
    refine RunC.skip ?_
    exact RunE.finT (.r0 rfl) (by simp [needX, show b = true by simpa using c0'])

theorem indexFunc_calls (f : Th → Bool) (l : List Th) (q : Option Addr) (b o cap : Nat) (fn : FuncId) (cp : List Value) (W : World) (hS : Sl W q b o 9 (l.map Th.cells)) (hl : l.length ≤ 100000000000) (he : Enters Try.prog fn)
    (hf : ∀ t ∈ l, ∀ w, Mem W [] [] w → Calls Try.prog fn ([t.v] ++ cp).toArray w (Pure (.bool (f t)) w)) :
    Calls Try.prog 109 #[.slice q l.length cap, .func (.func fn) #[] cp.toArray] W (Pure (.int .i64 (idxF f l)) W) := by
  refine calls_start Try.func109 rfl rfl ?_
  refine RunC.seq ?_
  refine RunC.region ?_
  refine RunL.val (Val.pure rfl) rfl rfl rfl ?_
  refine RunL.nil ?_
  refine RunE.next ?_
  refine RunC.seq ?_
  refine RunC.seq ?_
  refine RunC.region ?_
  refine RunL.val (Val.pure rfl) rfl rfl rfl ?_
  refine RunL.val (Val.len_sl rfl sl_24) rfl rfl rfl ?_
  refine RunL.val (Val.pure rfl) rfl rfl rfl ?_
  refine RunL.nil ?_
  refine RunE.next ?_
  refine RunC.block ?_
  refine RunC.loopK (l.length) (fun k q => (8, .int .i64 (k : Int)) :: q) (fun _ => _) (fun _ => []) (fun k => (l.take k).any f = false) (by simp) rfl (Sub.consE (t := 8) rfl rfl (Sub.cons (t := 0) rfl (Sub.cons (t := 1) rfl (Sub.cons (t := 7) rfl (Sub.nil _))))) .nil ?_
  intro k kN kI
  refine RunC.seq ?_
  refine RunC.region ?_
  refine RunL.val (Val.pure rfl) rfl rfl rfl ?_
  refine RunL.nil ?_
  refine RunE.next ?_
  refine RunC.seq ?_
  refine RunC.cond rfl ?_ ?_
  · intro c0
    have c0' := c0; clear c0
    try simp only [decide_eq_true_eq, decide_eq_false_iff_not, Bool.not_eq_true', Bool.not_eq_false', Bool.and_eq_true, Bool.or_eq_true, Bool.and_eq_false_iff, Bool.or_eq_false_iff, Int.not_le, Int.not_lt] at c0'
    have hk : k < l.length := by omega
    refine RunC.skip ?_
    refine RunE.next ?_
    refine RunC.seq ?_
    refine RunC.block ?_
    refine RunC.seq ?_
    refine RunC.region ?_
    refine RunL.val (Val.pure rfl) rfl rfl rfl ?_
    refine RunL.val (Val.pure rfl) rfl rfl rfl ?_
    refine RunL.nil ?_
    refine RunE.next ?_
    refine RunC.seq ?_
    refine RunC.region ?_
    iterate 3 refine RunL.val (Val.pure rfl) rfl rfl rfl ?_
    refine RunL.val (Val.indexAddr_slp rfl rfl sl_24 (by omega) (by omega) (hS.ptrM hk)) rfl rfl rfl ?_
    refine RunL.val (Val.load_gen rfl (fun w hm => hS.loadM (by decide) hm (by simp) ty_54 hk)) rfl rfl rfl ?_
    refine RunL.callP (isCall_value rfl rfl he) rfl rfl rfl (fun w hm => hf _ (List.getElem_mem hk) w hm.drop) ?_
    refine RunL.nil ?_
    refine RunE.next ?_
    refine RunC.cond rfl ?_ ?_
    · intro c1
      have c1' := c1; clear c1
      try simp only [decide_eq_true_eq, decide_eq_false_iff_not, Bool.not_eq_true', Bool.not_eq_false', Bool.and_eq_true, Bool.or_eq_true, Bool.and_eq_false_iff, Bool.or_eq_false_iff, Int.not_le, Int.not_lt] at c1'
      refine RunC.seq ?_
      refine RunC.region ?_
      refine RunL.val (Val.pure rfl) rfl rfl rfl ?_
      refine RunL.val (Val.pure rfl) rfl rfl rfl ?_
      refine RunL.nil ?_
      refine RunE.next ?_
      refine RunC.ret ?_
      refine RunE.block_ret ?_
      refine RunE.pass_ret ?_
      refine RunE.pass_ret ?_
      refine RunE.block_ret ?_
      refine RunE.pass_ret ?_
      exact RunE.retP (.r1 rfl (.tmp rfl)) (by rw [idxF_hit f l k hk kI c1'])
    · intro c1
      have c1' := c1; clear c1
      try simp only [decide_eq_true_eq, decide_eq_false_iff_not, Bool.not_eq_true', Bool.not_eq_false', Bool.and_eq_true, Bool.or_eq_true, Bool.and_eq_false_iff, Bool.or_eq_false_iff, Int.not_le, Int.not_lt] at c1'
      refine RunC.skip ?_
      refine RunE.block_normal ?_
      refine RunE.next ?_
      refine RunC.region ?_
      refine RunL.val (Val.add rfl rfl (IntWalk.i64_in _ ⟨by omega, by omega⟩)) rfl rfl rfl ?_
      refine RunL.val (Val.pure rfl) rfl rfl rfl ?_
      refine RunL.nil ?_
      exact RunE.round (by omega) (any_snoc hk kI c1') rfl (Sub.consE (t := 8) rfl rfl (Sub.cons (t := 0) rfl (Sub.cons (t := 1) rfl (Sub.cons (t := 7) rfl (Sub.nil _))))) .nil
  · intro c0
    have c0' := c0; clear c0
    try simp only [decide_eq_true_eq, decide_eq_false_iff_not, Bool.not_eq_true', Bool.not_eq_false', Bool.and_eq_true, Bool.or_eq_true, Bool.and_eq_false_iff, Bool.or_eq_false_iff, Int.not_le, Int.not_lt] at c0'
    obtain rfl : k = l.length := by omega
    rw [List.take_length] at kI
    refine RunC.exit ?_
    refine RunE.pass_exit ?_
    refine RunE.pass_exit ?_
    refine RunE.block_here ?_
    refine RunE.next ?_
    refine RunC.seq ?_
    refine RunC.region ?_
    refine RunL.val (Val.pure rfl) rfl rfl rfl ?_
    refine RunL.nil ?_
    refine RunE.next ?_
    refine RunC.ret ?_
    exact RunE.retP (.r1 rfl (.tmp rfl)) (by rw [idxF_none f l kI])
theorem containsFunc_calls (f : Th → Bool) (l : List Th) (q : Option Addr) (b o cap : Nat) (fn : FuncId) (cp : List Value) (W : World) (hS : Sl W q b o 9 (l.map Th.cells)) (hl : l.length ≤ 100000000000) (he : Enters Try.prog fn)
    (hf : ∀ t ∈ l, ∀ w, Mem W [] [] w → Calls Try.prog fn ([t.v] ++ cp).toArray w (Pure (.bool (f t)) w)) :
    Calls Try.prog 105 #[.slice q l.length cap, .func (.func fn) #[] cp.toArray] W (Pure (.bool (l.any f)) W) := by
  refine calls_start Try.func105 rfl rfl ?_
  refine RunC.seq ?_
  refine RunC.region ?_
  refine RunL.val (Val.pure rfl) rfl rfl rfl ?_
  refine RunL.nil ?_
  refine RunE.next ?_
  refine RunC.seq ?_
  refine RunC.region ?_
  refine RunL.val (Val.pure rfl) rfl rfl rfl ?_
  refine RunL.val (Val.pure rfl) rfl rfl rfl ?_
  refine RunL.callP (isCall_func rfl ent_109) rfl rfl rfl (fun w hm => indexFunc_calls f l q b o cap fn cp w (hS.mono (by decide) hm (by simp)) hl he (fun t ht w2 hm2 => hf t ht w2 ((hm.drop).pass hm2))) ?_
  refine RunL.val (Val.pure rfl) rfl rfl rfl ?_
  refine RunL.val (Val.pure rfl) rfl rfl rfl ?_
  refine RunL.nil ?_
  refine RunE.next ?_
  refine RunC.ret ?_
  exact RunE.retP (.r1 rfl (.tmp rfl)) (by rw [← idxF_any])
theorem isPair_calls (p : Pr) (q : Option Addr) (b o cap : Nat) (W : World) (hS : Sl W q b o 9 (p.things.map Th.cells)) (hl : p.things.length ≤ 100000000000) :
    Calls Try.prog 94 #[p.v q cap] W (Pure (.bool (isPair p)) W) := by
  refine calls_start Try.func94 rfl rfl ?_
  refine RunC.seq ?_
  refine RunC.region ?_
  refine RunL.new (New.box rfl) rfl rfl rfl (fun b1 => ?_)
  refine RunL.val (Val.pure rfl) rfl rfl rfl ?_
  refine RunL.nil ?_
  refine RunE.next ?_
  refine RunC.seq ?_
  refine RunC.region ?_
  refine RunL.new (New.alloc zero_128) rfl rfl rfl (fun b3 => ?_)
  refine RunL.sto (Sto.store rfl rfl .here ty_128 rfl rfl) rfl rfl ?_
  refine RunL.nil ?_
  refine RunE.next ?_
  refine RunC.seq ?_
  refine RunC.region ?_
  refine RunL.val (Val.pure rfl) rfl rfl rfl ?_
  refine RunL.val (Val.pure rfl) rfl rfl rfl ?_
  refine RunL.nil ?_
  refine RunE.next ?_
  refine RunC.seq ?_
  refine RunC.region ?_
  refine RunL.val (Val.fieldAddr rfl fld_26_0) rfl rfl rfl ?_
  refine RunL.val (Val.load_agg rfl (.tail _ (.head _)) ty_23 rfl) rfl rfl rfl ?_
  refine RunL.callP (isCall_func rfl ent_103) rfl rfl rfl (fun w hm => isSpan_calls ⟨_, _⟩ _ _ w) ?_
  refine RunL.val (Val.pure rfl) rfl rfl rfl ?_
  refine RunL.andPart (dj := 10) (dp := 14) 4 rfl (fun g10 => by
    have g10' := g10
    try simp only [decide_eq_true_eq, decide_eq_false_iff_not, Bool.not_eq_true', Bool.not_eq_false', Bool.and_eq_true, Bool.or_eq_true, Bool.and_eq_false_iff, Bool.or_eq_false_iff, Int.not_le, Int.not_lt] at g10'
    refine RunL.val (Val.fieldAddr rfl fld_26_1) rfl rfl rfl ?_
    refine RunL.val (Val.load_agg rfl (.tail _ (.head _)) ty_23 rfl) rfl rfl rfl ?_
    refine RunL.callP (isCall_func rfl ent_103) rfl rfl rfl (fun w hm => isSpan_calls ⟨_, _⟩ _ _ w) ?_
    refine RunL.val (Val.pure rfl) rfl rfl rfl ?_
    exact RunL.segEnd (Sub.cons rfl (Sub.skip rfl (Sub.skip rfl (Sub.skip rfl (Sub.skip rfl (Sub.same rfl (by rw [g10]) (Sub.refl _))))))) (List.Sublist.refl _)
  ) (fun g10 => by
    have g10' := g10
    try simp only [decide_eq_true_eq, decide_eq_false_iff_not, Bool.not_eq_true', Bool.not_eq_false', Bool.and_eq_true, Bool.or_eq_true, Bool.and_eq_false_iff, Bool.or_eq_false_iff, Int.not_le, Int.not_lt] at g10'
    iterate 3 refine RunL.no rfl rfl rfl ?_
    refine RunL.val (Val.pure rfl) rfl rfl rfl ?_
    exact RunL.segEnd (Sub.cons rfl (Sub.skip rfl (Sub.skip rfl (Sub.skip rfl (Sub.skip rfl (Sub.same rfl (by rw [g10]) (Sub.refl _))))))) (List.Sublist.refl _)
  ) ?_
  refine RunL.val (Val.pure rfl) rfl rfl rfl ?_
  refine RunL.andPart (dj := 15) (dp := 19) 4 rfl (fun g15 => by
    have g15' := g15
    try simp only [decide_eq_true_eq, decide_eq_false_iff_not, Bool.not_eq_true', Bool.not_eq_false', Bool.and_eq_true, Bool.or_eq_true, Bool.and_eq_false_iff, Bool.or_eq_false_iff, Int.not_le, Int.not_lt] at g15'
    refine RunL.val (Val.fieldAddr rfl fld_26_2) rfl rfl rfl ?_
    refine RunL.val (Val.load_one rfl (.tail _ (.head _)) ty_3 rfl) rfl rfl rfl ?_
    refine RunL.callP (isCall_func rfl ent_95) rfl rfl rfl (fun w hm => within_calls _ _ _ w) ?_
    refine RunL.val (Val.pure rfl) rfl rfl rfl ?_
    exact RunL.segEnd (Sub.cons rfl (Sub.skip rfl (Sub.skip rfl (Sub.skip rfl (Sub.skip rfl (Sub.same rfl (by rw [g15]) (Sub.refl _))))))) (List.Sublist.refl _)
  ) (fun g15 => by
    have g15' := g15
    try simp only [decide_eq_true_eq, decide_eq_false_iff_not, Bool.not_eq_true', Bool.not_eq_false', Bool.and_eq_true, Bool.or_eq_true, Bool.and_eq_false_iff, Bool.or_eq_false_iff, Int.not_le, Int.not_lt] at g15'
    iterate 3 refine RunL.no rfl rfl rfl ?_
    refine RunL.val (Val.pure rfl) rfl rfl rfl ?_
    exact RunL.segEnd (Sub.cons rfl (Sub.skip rfl (Sub.skip rfl (Sub.skip rfl (Sub.skip rfl (Sub.same rfl (by rw [g15]) (Sub.refl _))))))) (List.Sublist.refl _)
  ) ?_
  refine RunL.val (Val.pure rfl) rfl rfl rfl ?_
  refine RunL.nil ?_
  refine RunE.next ?_
  refine RunC.seq ?_
  refine RunC.region ?_
  refine RunL.val (Val.pure rfl) rfl rfl rfl ?_
  refine RunL.val (Val.pure rfl) rfl rfl rfl ?_
  refine RunL.andPart (dj := 21) (dp := 25) 4 rfl (fun g21 => by
    have g21' := g21
    try simp only [decide_eq_true_eq, decide_eq_false_iff_not, Bool.not_eq_true', Bool.not_eq_false', Bool.and_eq_true, Bool.or_eq_true, Bool.and_eq_false_iff, Bool.or_eq_false_iff, Int.not_le, Int.not_lt] at g21'
    refine RunL.val (Val.fieldAddr rfl fld_26_3) rfl rfl rfl ?_
    refine RunL.val (Val.load_one rfl (.tail _ (.head _)) ty_3 rfl) rfl rfl rfl ?_
    refine RunL.callP (isCall_func rfl ent_95) rfl rfl rfl (fun w hm => within_calls _ _ _ w) ?_
    refine RunL.val (Val.pure rfl) rfl rfl rfl ?_
    exact RunL.segEnd (Sub.cons rfl (Sub.skip rfl (Sub.skip rfl (Sub.skip rfl (Sub.skip rfl (Sub.same rfl (by rw [g21]) (Sub.refl _))))))) (List.Sublist.refl _)
  ) (fun g21 => by
    have g21' := g21
    try simp only [decide_eq_true_eq, decide_eq_false_iff_not, Bool.not_eq_true', Bool.not_eq_false', Bool.and_eq_true, Bool.or_eq_true, Bool.and_eq_false_iff, Bool.or_eq_false_iff, Int.not_le, Int.not_lt] at g21'
    iterate 3 refine RunL.no rfl rfl rfl ?_
    refine RunL.val (Val.pure rfl) rfl rfl rfl ?_
    exact RunL.segEnd (Sub.cons rfl (Sub.skip rfl (Sub.skip rfl (Sub.skip rfl (Sub.skip rfl (Sub.same rfl (by rw [g21]) (Sub.refl _))))))) (List.Sublist.refl _)
  ) ?_
  refine RunL.val (Val.pure rfl) rfl rfl rfl ?_
  refine RunL.andPart (dj := 26) (dp := 32) 6 rfl (fun g26 => by
    have g26' := g26
    try simp only [decide_eq_true_eq, decide_eq_false_iff_not, Bool.not_eq_true', Bool.not_eq_false', Bool.and_eq_true, Bool.or_eq_true, Bool.and_eq_false_iff, Bool.or_eq_false_iff, Int.not_le, Int.not_lt] at g26'
    refine RunL.val (Val.fieldAddr rfl fld_26_4) rfl rfl rfl ?_
    refine RunL.val (Val.load_one rfl (.tail _ (.head _)) ty_3 rfl) rfl rfl rfl ?_
    refine RunL.val (Val.fieldAddr rfl fld_26_3) rfl rfl rfl ?_
    refine RunL.val (Val.load_one rfl (.tail _ (.head _)) ty_3 rfl) rfl rfl rfl ?_
    refine RunL.callP (isCall_func rfl ent_95) rfl rfl rfl (fun w hm => within_calls _ _ _ w) ?_
    refine RunL.val (Val.pure rfl) rfl rfl rfl ?_
    exact RunL.segEnd (Sub.cons rfl (Sub.skip rfl (Sub.skip rfl (Sub.skip rfl (Sub.skip rfl (Sub.skip rfl (Sub.skip rfl (Sub.same rfl (by rw [g26]) (Sub.refl _))))))))) (List.Sublist.refl _)
  ) (fun g26 => by
    have g26' := g26
    try simp only [decide_eq_true_eq, decide_eq_false_iff_not, Bool.not_eq_true', Bool.not_eq_false', Bool.and_eq_true, Bool.or_eq_true, Bool.and_eq_false_iff, Bool.or_eq_false_iff, Int.not_le, Int.not_lt] at g26'
    iterate 5 refine RunL.no rfl rfl rfl ?_
    refine RunL.val (Val.pure rfl) rfl rfl rfl ?_
    exact RunL.segEnd (Sub.cons rfl (Sub.skip rfl (Sub.skip rfl (Sub.skip rfl (Sub.skip rfl (Sub.skip rfl (Sub.skip rfl (Sub.same rfl (by rw [g26]) (Sub.refl _))))))))) (List.Sublist.refl _)
  ) ?_
  refine RunL.val (Val.pure rfl) rfl rfl rfl ?_
  refine RunL.andPart (dj := 33) (dp := 38) 5 rfl (fun g33 => by
    have g33' := g33
    try simp only [decide_eq_true_eq, decide_eq_false_iff_not, Bool.not_eq_true', Bool.not_eq_false', Bool.and_eq_true, Bool.or_eq_true, Bool.and_eq_false_iff, Bool.or_eq_false_iff, Int.not_le, Int.not_lt] at g33'
    refine RunL.val (Val.fieldAddr rfl fld_26_5) rfl rfl rfl ?_
    refine RunL.val (Val.load_one rfl (.tail _ (.head _)) ty_24 rfl) rfl rfl rfl ?_
    refine RunL.val (Val.len_sl rfl sl_24) rfl rfl rfl ?_
    refine RunL.val (Val.pure rfl) rfl rfl rfl ?_
    refine RunL.val (Val.pure rfl) rfl rfl rfl ?_
    exact RunL.segEnd (Sub.cons rfl (Sub.skip rfl (Sub.skip rfl (Sub.skip rfl (Sub.skip rfl (Sub.skip rfl (Sub.same rfl (by rw [g33]) (Sub.refl _)))))))) (List.Sublist.refl _)
  ) (fun g33 => by
    have g33' := g33
    try simp only [decide_eq_true_eq, decide_eq_false_iff_not, Bool.not_eq_true', Bool.not_eq_false', Bool.and_eq_true, Bool.or_eq_true, Bool.and_eq_false_iff, Bool.or_eq_false_iff, Int.not_le, Int.not_lt] at g33'
    iterate 4 refine RunL.no rfl rfl rfl ?_
    refine RunL.val (Val.pure rfl) rfl rfl rfl ?_
    exact RunL.segEnd (Sub.cons rfl (Sub.skip rfl (Sub.skip rfl (Sub.skip rfl (Sub.skip rfl (Sub.skip rfl (Sub.same rfl (by rw [g33]) (Sub.refl _)))))))) (List.Sublist.refl _)
  ) ?_
  refine RunL.val (Val.pure rfl) rfl rfl rfl ?_
  refine RunL.andPart (dj := 39) (dp := 45) 6 rfl (fun g39 => by
    have g39' := g39
    try simp only [decide_eq_true_eq, decide_eq_false_iff_not, Bool.not_eq_true', Bool.not_eq_false', Bool.and_eq_true, Bool.or_eq_true, Bool.and_eq_false_iff, Bool.or_eq_false_iff, Int.not_le, Int.not_lt] at g39'
    refine RunL.val (Val.fieldAddr rfl fld_26_5) rfl rfl rfl ?_
    refine RunL.val (Val.load_one rfl (.tail _ (.head _)) ty_24 rfl) rfl rfl rfl ?_
    refine RunL.val (Val.pure rfl) rfl rfl rfl ?_
    refine RunL.callP (isCall_func rfl ent_105) rfl rfl rfl (fun w hm => containsFunc_calls (bad p) p.things q b o cap 104 [_, _] w (hS.mono (by decide) hm (by simp)) hl ent_104 (fun t ht w2 hm2 => bad_calls p q cap t _ _ w2 (hm2.old_at (hm.at (.head _)) (by simp)) (hm2.old_at (hm.at (.tail _ (.head _))) (by simp)))) ?_
    refine RunL.val (Val.pure rfl) rfl rfl rfl ?_
    refine RunL.val (Val.pure rfl) rfl rfl rfl ?_
    exact RunL.segEnd (Sub.cons rfl (Sub.skip rfl (Sub.skip rfl (Sub.skip rfl (Sub.skip rfl (Sub.skip rfl (Sub.skip rfl (Sub.same rfl (by rw [g39]) (Sub.refl _))))))))) (List.Sublist.refl _)
  ) (fun g39 => by
    have g39' := g39
    try simp only [decide_eq_true_eq, decide_eq_false_iff_not, Bool.not_eq_true', Bool.not_eq_false', Bool.and_eq_true, Bool.or_eq_true, Bool.and_eq_false_iff, Bool.or_eq_false_iff, Int.not_le, Int.not_lt] at g39'
    iterate 5 refine RunL.no rfl rfl rfl ?_
    refine RunL.val (Val.pure rfl) rfl rfl rfl ?_
    exact RunL.segEnd (Sub.cons rfl (Sub.skip rfl (Sub.skip rfl (Sub.skip rfl (Sub.skip rfl (Sub.skip rfl (Sub.skip rfl (Sub.same rfl (by rw [g39]) (Sub.refl _))))))))) (List.Sublist.refl _)
  ) ?_
  refine RunL.val (Val.pure rfl) rfl rfl rfl ?_
  refine RunL.nil ?_
  refine RunE.next ?_
  refine RunC.ret ?_
  exact RunE.retP (.r1 rfl (.tmp rfl)) (by first | rfl | simp)
theorem open_calls (p : Pr) (q : Option Addr) (b o cap : Nat) (l : List Int) (q2 : Option Addr) (b2 o2 cap2 : Nat) (W : World) (hS : Sl W q b o 9 (p.things.map Th.cells)) (hl : p.things.length ≤ 100000000000) (hL : Sl W q2 b2 o2 1 (l.map fun n => [.int .i64 n])) (hl2 : l.length ≤ 100000) :
    Calls Try.prog 85 #[p.v q cap, .slice q2 l.length cap2] W (TryN misf (openX p l) (fun _ b => .pointer (some ⟨b, 0, none⟩)) (fun _ b => [(b, .cells (vwCells p q cap (0, 0)).toArray 100 (0, 0))]) W) := by
  refine calls_start Try.func85 rfl rfl ?_
  refine RunC.seq ?_
  refine RunC.region ?_
  refine RunL.new (New.box rfl) rfl rfl rfl (fun b2 => ?_)
  refine RunL.val (Val.pure rfl) rfl rfl rfl ?_
  refine RunL.nil ?_
  refine RunE.next ?_
  refine RunC.seq ?_
  refine RunC.region ?_
  refine RunL.val (Val.load_agg rfl (.head _) ty_26 rfl) rfl rfl rfl ?_
  refine RunL.callP (isCall_func rfl ent_94) rfl rfl rfl (fun w hm => isPair_calls p q b o cap w (hS.mono (by decide) hm (by simp)) hl) ?_
  refine RunL.callT (isCall_func rfl ent_69) rfl rfl rfl (fun w hm => need_calls _ _ w) (fun e9 he9 => ?_) (fun v9 hv9 => ?_)
  · obtain ⟨er9, rfl⟩ := need_err he9
    refine RunE.pass_panic ?_
    exact RunE.panicTN (by simp [openX, er9])
  obtain ⟨ok9, rfl⟩ := need_ok hv9
  refine RunL.nil ?_
  refine RunE.next ?_
  refine RunC.seq ?_
  refine RunC.seq ?_
  refine RunC.region ?_
  refine RunL.val (Val.pure rfl) rfl rfl rfl ?_
  refine RunL.val (Val.len_sl rfl sl_119) rfl rfl rfl ?_
  refine RunL.val (Val.pure rfl) rfl rfl rfl ?_
  refine RunL.nil ?_
  refine RunE.next ?_
  refine RunC.block ?_
  refine RunC.loopK (l.length) (fun k q => (12, .int .i64 (k : Int)) :: q) (fun _ => _) (fun _ => []) (fun k => (l.take k).any (fun n => !within n 0 ((p.things.length : Int) - 1)) = false) (by simp) rfl (Sub.consE (t := 12) rfl rfl (Sub.cons (t := 2) rfl (Sub.cons (t := 4) rfl (Sub.cons (t := 10) rfl (Sub.cons (t := 11) rfl (Sub.nil _)))))) (.cons .here rfl .nil) ?_
  intro k kN kI
  refine RunC.seq ?_
  refine RunC.region ?_
  refine RunL.val (Val.pure rfl) rfl rfl rfl ?_
  refine RunL.nil ?_
  refine RunE.next ?_
  refine RunC.seq ?_
  refine RunC.cond rfl ?_ ?_
  · intro c0
    have c0' := c0; clear c0
    try simp only [decide_eq_true_eq, decide_eq_false_iff_not, Bool.not_eq_true', Bool.not_eq_false', Bool.and_eq_true, Bool.or_eq_true, Bool.and_eq_false_iff, Bool.or_eq_false_iff, Int.not_le, Int.not_lt] at c0'
    have hk : k < l.length := by omega
    refine RunC.skip ?_
    refine RunE.next ?_
    refine RunC.seq ?_
    refine RunC.block ?_
    refine RunC.seq ?_
    refine RunC.region ?_
    refine RunL.val (Val.indexAddr_slp rfl rfl sl_119 (by omega) (by omega) (hL.ptrM hk)) rfl rfl rfl ?_
    refine RunL.val (Val.load_gen rfl (fun w hm => hL.loadM1 (by decide) hm (by simp) ty_3 hk (v := .int .i64 l[k]) rfl)) rfl rfl rfl ?_
    refine RunL.val (Val.pure rfl) rfl rfl rfl ?_
    refine RunL.nil ?_
    refine RunE.next ?_
    refine RunC.region ?_
    refine RunL.val (Val.pure rfl) rfl rfl rfl ?_
    refine RunL.val (Val.fieldAddr rfl fld_26_5) rfl rfl rfl ?_
    refine RunL.val (Val.load_one rfl (.head _) ty_24 rfl) rfl rfl rfl ?_
    refine RunL.val (Val.len_sl rfl sl_24) rfl rfl rfl ?_
    refine RunL.val (Val.sub' rfl rfl (IntWalk.i64_in _ ⟨by omega, by omega⟩)) rfl rfl rfl ?_
    refine RunL.callP (isCall_func rfl ent_95) rfl rfl rfl (fun w hm => within_calls _ _ _ w) ?_
    refine RunL.callT (isCall_func rfl ent_69) rfl rfl rfl (fun w hm => need_calls _ _ w) (fun e22 he22 => ?_) (fun v22 hv22 => ?_)
    · obtain ⟨er22, rfl⟩ := need_err he22
      refine RunE.block_panic ?_
      refine RunE.pass_panic ?_
      refine RunE.pass_panic ?_
      refine RunE.block_panic ?_
      refine RunE.pass_panic ?_
      exact RunE.panicTN (by simp [openX, ok9, any_hit hk (f := fun n => !within n 0 ((p.things.length : Int) - 1)) (by simp [er22])])
    obtain ⟨ok22, rfl⟩ := need_ok hv22
    refine RunL.nil ?_
    refine RunE.block_normal ?_
    refine RunE.next ?_
    refine RunC.region ?_
    refine RunL.val (Val.add rfl rfl (IntWalk.i64_in _ ⟨by omega, by omega⟩)) rfl rfl rfl ?_
    refine RunL.val (Val.pure rfl) rfl rfl rfl ?_
    refine RunL.nil ?_
    exact RunE.round (by omega) (any_snoc hk kI (by simp [ok22])) rfl (Sub.consE (t := 12) rfl rfl (Sub.cons (t := 2) rfl (Sub.cons (t := 4) rfl (Sub.cons (t := 10) rfl (Sub.cons (t := 11) rfl (Sub.nil _)))))) (.cons .here rfl .nil)
  · intro c0
    have c0' := c0; clear c0
    try simp only [decide_eq_true_eq, decide_eq_false_iff_not, Bool.not_eq_true', Bool.not_eq_false', Bool.and_eq_true, Bool.or_eq_true, Bool.and_eq_false_iff, Bool.or_eq_false_iff, Int.not_le, Int.not_lt] at c0'
    obtain rfl : k = l.length := by omega
    rw [List.take_length] at kI
    refine RunC.exit ?_
    refine RunE.pass_exit ?_
    refine RunE.pass_exit ?_
    refine RunE.block_here ?_
    refine RunE.next ?_
    refine RunC.seq ?_
    refine RunC.region ?_
    refine RunL.val (Val.load_agg rfl (.head _) ty_26 rfl) rfl rfl rfl ?_
    refine RunL.val (Val.build (parts := [(0, .tmp 24)]) rfl zero_100 places_100 rfl) rfl rfl rfl ?_
    refine RunL.new (New.box rfl) rfl rfl rfl (fun b26 => ?_)
    refine RunL.val (Val.pure rfl) rfl rfl rfl ?_
    refine RunL.nil ?_
    refine RunE.next ?_
    refine RunC.ret ?_
    exact RunE.retTN (a := ()) b26 (.r1 rfl (.tmp rfl)) (by simp [openX, ok9, kI]) rfl (.cons .here rfl .nil)
end Go.Proofs.Ytjijeeadmhpfcaa
/- Walks of package pair: the powers of a pair. -/
set_option linter.unusedSimpArgs false
set_option linter.unusedVariables false
namespace Go.Proofs.Ytjijeeadmhpfcaa
open Go Go.Eng Go.Pw1

theorem look_calls (p : Pr) (hp : p.Ok) (q : Option Addr) (b o cap : Nat) (pw0 : Int × Int) (bv : Nat) (W : World) (hV : W.heap[bv]? = some (.cells (vwCells p q cap pw0).toArray 100 (0, 0))) (hS : Sl W q b o 9 (p.things.map Th.cells)) (hne : p.things.map Th.cells ≠ [] → b ≠ bv) :
    Calls Try.prog 86 #[.pointer (some ⟨bv, 0, none⟩)] W (TryU misf (lookX p) (.tuple #[]) bv (fun w => .cells (vwCells p q cap w).toArray 100 (0, 0)) W) := by
  have f1 := hp.f1
  have f2 := hp.f2
  have f3 := hp.f3
  have b1 := hp.b1
  have b2 := hp.b2
  have b3 := hp.b3
  have m1 := mul_bd (a := p.focal.lo) (b := p.base.lo) (A := 50000) (B := 10000) (by omega) (by omega) (by omega) (by omega)
  have m2 := mul_bd (a := p.focal.hi) (b := p.base.hi) (A := 50000) (B := 10000) (by omega) (by omega) (by omega) (by omega)
  have hlen := hp.len
  obtain ⟨w0, hw0⟩ : ∃ w0 : Int × Int, w0 = (p.focal.lo * p.base.lo, p.focal.hi * p.base.hi) := ⟨_, rfl⟩
  have hl0 : lookS p = lookL p w0 p.things := by rw [hw0]; rfl
  have hbs : ∀ ob : Obj, ∀ ob' : Obj, p.things.map Th.cells ≠ [] → (b, ob) ∉ [(bv, ob')] := fun ob ob' h => by simp [hne h]
  refine calls_start_chg hV Try.func86 rfl rfl ?_
  refine RunC.scope ?_
  refine RunC.seq ?_
  refine RunC.draw 28 fol_ .nil ?_
  refine RunA.val (i := 0) rfl (by kernel_rfl) (by kernel_rfl) (Val.pure rfl) rfl rfl rfl (fun _ _ _ h => h) .nil rfl ?_
  refine RunA.val (i := 1) rfl (by kernel_rfl) (by kernel_rfl) (Val.pure rfl) rfl rfl rfl (fun _ _ _ h => h) .nil rfl ?_
  refine RunA.val (i := 2) rfl (by kernel_rfl) (by kernel_rfl) (Val.pure rfl) rfl rfl rfl (fun _ _ _ h => h) .nil rfl ?_
  refine RunA.val (i := 3) rfl (by kernel_rfl) (by kernel_rfl) (Val.fieldAddr rfl fld_100_0) rfl rfl rfl (fun _ _ _ h => h) .nil rfl ?_
  refine RunA.val (i := 4) rfl (by kernel_rfl) (by kernel_rfl) (Val.fieldAddr rfl fld_26_0) rfl rfl rfl (fun _ _ _ h => h) .nil rfl ?_
  refine RunA.val (i := 5) rfl (by kernel_rfl) (by kernel_rfl) (Val.fieldAddr rfl fld_23_0) rfl rfl rfl (fun _ _ _ h => h) .nil rfl ?_
  refine RunA.val (i := 6) rfl (by kernel_rfl) (by kernel_rfl) (Val.load_one rfl (.head _) ty_3 rfl) rfl rfl rfl (fun _ _ _ h => h) .nil rfl ?_
  refine RunA.val (i := 7) rfl (by kernel_rfl) (by kernel_rfl) (Val.pure rfl) rfl rfl rfl (fun _ _ _ h => h) .nil rfl ?_
  refine RunA.val (i := 8) rfl (by kernel_rfl) (by kernel_rfl) (Val.pure rfl) rfl rfl rfl (fun _ _ _ h => h) .nil rfl ?_
  refine RunA.val (i := 9) rfl (by kernel_rfl) (by kernel_rfl) (Val.fieldAddr rfl fld_100_0) rfl rfl rfl (fun _ _ _ h => h) .nil rfl ?_
  refine RunA.val (i := 10) rfl (by kernel_rfl) (by kernel_rfl) (Val.fieldAddr rfl fld_26_1) rfl rfl rfl (fun _ _ _ h => h) .nil rfl ?_
  refine RunA.val (i := 11) rfl (by kernel_rfl) (by kernel_rfl) (Val.fieldAddr rfl fld_23_0) rfl rfl rfl (fun _ _ _ h => h) .nil rfl ?_
  refine RunA.val (i := 12) rfl (by kernel_rfl) (by kernel_rfl) (Val.load_one rfl (.head _) ty_3 rfl) rfl rfl rfl (fun _ _ _ h => h) .nil rfl ?_
  refine RunA.val (i := 13) rfl (by kernel_rfl) (by kernel_rfl) (Val.mul rfl rfl (IntWalk.i64_in _ ⟨by omega, by omega⟩)) rfl rfl rfl (fun _ _ _ h => h) .nil rfl ?_
  refine RunA.val (i := 14) rfl (by kernel_rfl) (by kernel_rfl) (Val.pure rfl) rfl rfl rfl (fun _ _ _ h => h) .nil rfl ?_
  refine RunA.val (i := 15) rfl (by kernel_rfl) (by kernel_rfl) (Val.pure rfl) rfl rfl rfl (fun _ _ _ h => h) .nil rfl ?_
  refine RunA.val (i := 16) rfl (by kernel_rfl) (by kernel_rfl) (Val.fieldAddr rfl fld_100_0) rfl rfl rfl (fun _ _ _ h => h) .nil rfl ?_
  refine RunA.val (i := 17) rfl (by kernel_rfl) (by kernel_rfl) (Val.fieldAddr rfl fld_26_0) rfl rfl rfl (fun _ _ _ h => h) .nil rfl ?_
  refine RunA.val (i := 18) rfl (by kernel_rfl) (by kernel_rfl) (Val.fieldAddr rfl fld_23_1) rfl rfl rfl (fun _ _ _ h => h) .nil rfl ?_
  refine RunA.val (i := 19) rfl (by kernel_rfl) (by kernel_rfl) (Val.load_one rfl (.head _) ty_3 rfl) rfl rfl rfl (fun _ _ _ h => h) .nil rfl ?_
  refine RunA.val (i := 20) rfl (by kernel_rfl) (by kernel_rfl) (Val.pure rfl) rfl rfl rfl (fun _ _ _ h => h) .nil rfl ?_
  refine RunA.val (i := 21) rfl (by kernel_rfl) (by kernel_rfl) (Val.pure rfl) rfl rfl rfl (fun _ _ _ h => h) .nil rfl ?_
  refine RunA.val (i := 22) rfl (by kernel_rfl) (by kernel_rfl) (Val.fieldAddr rfl fld_100_0) rfl rfl rfl (fun _ _ _ h => h) .nil rfl ?_
  refine RunA.val (i := 23) rfl (by kernel_rfl) (by kernel_rfl) (Val.fieldAddr rfl fld_26_1) rfl rfl rfl (fun _ _ _ h => h) .nil rfl ?_
  refine RunA.val (i := 24) rfl (by kernel_rfl) (by kernel_rfl) (Val.fieldAddr rfl fld_23_1) rfl rfl rfl (fun _ _ _ h => h) .nil rfl ?_
  refine RunA.val (i := 25) rfl (by kernel_rfl) (by kernel_rfl) (Val.load_one rfl (.head _) ty_3 rfl) rfl rfl rfl (fun _ _ _ h => h) .nil rfl ?_
  refine RunA.val (i := 26) rfl (by kernel_rfl) (by kernel_rfl) (Val.mul rfl rfl (IntWalk.i64_in _ ⟨by omega, by omega⟩)) rfl rfl rfl (fun _ _ _ h => h) .nil rfl ?_
  refine RunA.val (i := 27) rfl (by kernel_rfl) (by kernel_rfl) (Val.build (parts := [(0, .tmp 19), (1, .tmp 32)]) rfl zero_98 places_98 rfl) rfl rfl rfl (fun _ _ _ h => h) .nil rfl ?_
  refine RunA.toB (by kernel_rfl) ?_
  refine RunB.one (i := 28) (by kernel_rfl) ?_
  refine RunI.val rfl (Val.pure rfl) rfl rfl rfl (RunK.toB ?_)
  refine RunB.one (i := 29) (by kernel_rfl) ?_
  refine RunI.val rfl (Val.fieldAddr rfl fld_100_1) rfl rfl rfl (RunK.toB ?_)
  refine RunB.one (i := 30) (by kernel_rfl) ?_
  refine RunI.sto rfl (Sto.store_chg rfl rfl .here ty_98 rfl rfl) rfl rfl (RunK.toB ?_)
  refine RunB.done (by kernel_rfl) ?_
  refine RunE.next ?_
  refine RunC.seq ?_
  refine RunC.label ?_
  refine RunE.next ?_
  refine RunC.seq ?_
  refine RunC.region ?_
  refine RunL.val (Val.pure rfl) rfl rfl rfl ?_
  refine RunL.val (Val.pure rfl) rfl rfl rfl ?_
  refine RunL.val (Val.fieldAddr rfl fld_100_0) rfl rfl rfl ?_
  refine RunL.val (Val.fieldAddr rfl fld_26_5) rfl rfl rfl ?_
  refine RunL.val (Val.load_one rfl (.head _) ty_24 rfl) rfl rfl rfl ?_
  refine RunL.val (Val.len_sl rfl sl_24) rfl rfl rfl ?_
  refine RunL.val (Val.pure rfl) rfl rfl rfl ?_
  refine RunL.nil ?_
  refine RunE.next ?_
  refine RunC.block ?_
  refine RunC.loopK (p.things.length) (fun k q => (42, .int .i64 (k : Int)) :: q) (fun k => [(bv, .cells (vwCells p q cap ((lookL p w0 (p.things.take k)).getD (0, 0))).toArray 100 (0, 0))]) (fun _ => []) (fun k => (lookL p w0 (p.things.take k)).isSome = true) (by simp [lookL]) (by simp only [List.take_zero, lookL, hw0]; rfl) (Sub.consE (t := 42) rfl rfl (Sub.cons (t := 0) rfl (Sub.cons (t := 40) rfl (Sub.cons (t := 41) rfl (Sub.nil _))))) .nil ?_
  intro k kN kI
  obtain ⟨wk, hwk⟩ := Option.isSome_iff_exists.1 kI
  simp only [hwk, Option.getD_some]
  refine RunC.seq ?_
  refine RunC.region ?_
  refine RunL.val (Val.pure rfl) rfl rfl rfl ?_
  refine RunL.nil ?_
  refine RunE.next ?_
  refine RunC.seq ?_
  refine RunC.cond rfl ?_ ?_
  · intro c0
    have c0' := c0; clear c0
    try simp only [decide_eq_true_eq, decide_eq_false_iff_not, Bool.not_eq_true', Bool.not_eq_false', Bool.and_eq_true, Bool.or_eq_true, Bool.and_eq_false_iff, Bool.or_eq_false_iff, Int.not_le, Int.not_lt] at c0'
    have hk : k < p.things.length := by omega
    have hx : p.things.map Th.cells ≠ [] := by intro h; simp [List.map_eq_nil_iff] at h; simp [h] at hk
    have hth := hp.ths _ (List.getElem_mem hk)
    obtain ⟨t, ht⟩ : ∃ t, p.things[k] = t := ⟨_, rfl⟩
    rw [ht] at hth
    refine RunC.skip ?_
    refine RunE.next ?_
    refine RunC.seq ?_
    refine RunC.block ?_
    refine RunC.seq ?_
    refine RunC.region ?_
    refine RunL.val (Val.indexAddr_slp rfl rfl sl_24 (by omega) (by omega) (hS.ptrM hk)) rfl rfl rfl ?_
    refine RunL.val (Val.load_gen rfl (fun w hm => hS.loadX (by decide) hm (fun ob => hbs ob _ hx) ty_54 hk ht)) rfl rfl rfl ?_
    refine RunL.new (New.alloc zero_54) rfl rfl rfl (fun b3 => ?_)
    refine RunL.sto (Sto.store rfl rfl .here ty_54 rfl rfl) rfl rfl ?_
    refine RunL.nil ?_
    refine RunE.next ?_
    refine RunC.seq ?_
    refine RunC.seq ?_
    refine RunC.region ?_
    refine RunL.val (Val.fieldAddr rfl fld_54_2) rfl rfl rfl ?_
    refine RunL.val (Val.load_one rfl (.tail _ (.head _)) ty_3 rfl) rfl rfl rfl ?_
    refine RunL.val (Val.pure rfl) rfl rfl rfl ?_
    refine RunL.nil ?_
    refine RunE.next ?_
    refine RunC.cond rfl ?_ ?_
    · intro c1
      have c1' := c1; clear c1
      try simp only [decide_eq_true_eq, decide_eq_false_iff_not, Bool.not_eq_true', Bool.not_eq_false', Bool.and_eq_true, Bool.or_eq_true, Bool.and_eq_false_iff, Bool.or_eq_false_iff, Int.not_le, Int.not_lt] at c1'
      refine RunC.exit ?_
      refine RunE.pass_exit ?_
      refine RunE.block_here ?_
      refine RunE.next ?_
      refine RunC.region ?_
      refine RunL.val (Val.add rfl rfl (IntWalk.i64_in _ ⟨by omega, by omega⟩)) rfl rfl rfl ?_
      refine RunL.val (Val.pure rfl) rfl rfl rfl ?_
      refine RunL.nil ?_
      exact RunE.round (by omega) (by first | (simp [look_step hk ht hwk, lookL, c1']; done) | simp [look_step hk ht hwk, lookL, c1', ok60]) (by first | (simp [look_step hk ht hwk, lookL, c1']; done) | (simp [look_step hk ht hwk, lookL, c1', ok60]; done) | (simp [look_step hk ht hwk, lookL, c1', ok60]; rfl)) (Sub.consE (t := 42) rfl rfl (Sub.cons (t := 0) rfl (Sub.cons (t := 40) rfl (Sub.cons (t := 41) rfl (Sub.nil _))))) .nil
    · intro c1
      have c1' := c1; clear c1
      try simp only [decide_eq_true_eq, decide_eq_false_iff_not, Bool.not_eq_true', Bool.not_eq_false', Bool.and_eq_true, Bool.or_eq_true, Bool.and_eq_false_iff, Bool.or_eq_false_iff, Int.not_le, Int.not_lt] at c1'
      refine RunC.skip ?_
      refine RunE.next ?_
      refine RunC.seq ?_
      apply RunC.drawJ (J := J1 _ _ _ _ _ _) 12 fol_ (.cons .here rfl .nil)
      · refine RunA.val (i := 0) rfl (by kernel_rfl) (by kernel_rfl) (Val.pure rfl) rfl rfl rfl (fun _ _ _ h => h) (.cons .here rfl .nil) rfl ?_
        refine RunA.val (i := 1) rfl (by kernel_rfl) (by kernel_rfl) (Val.load_agg rfl (.tail _ (.head _)) ty_54 rfl) rfl rfl rfl (fun _ _ _ h => h) (.cons .here rfl .nil) rfl ?_
        refine RunA.val (i := 2) rfl (by kernel_rfl) (by kernel_rfl) (Val.pure rfl) rfl rfl rfl (fun _ _ _ h => h) (.cons .here rfl .nil) rfl ?_
        refine RunA.val (i := 3) rfl (by kernel_rfl) (by kernel_rfl) (Val.pure rfl) rfl rfl rfl (fun _ _ _ h => h) (.cons .here rfl .nil) rfl ?_
        refine RunA.val (i := 4) rfl (by kernel_rfl) (by kernel_rfl) (Val.fieldAddr rfl fld_100_1) rfl rfl rfl (fun _ _ _ h => h) (.cons .here rfl .nil) rfl ?_
        refine RunA.val (i := 5) rfl (by kernel_rfl) (by kernel_rfl) (Val.load_agg rfl (.head _) ty_98 rfl) rfl rfl rfl (fun _ _ _ h => h) (.cons .here rfl .nil) rfl ?_
        refine RunA.all (rs := [6, 10]) (by kernel_rfl) (by simp) (by kernel_rfl) (fun m hm => ?_)
        simp only [List.mem_cons, List.not_mem_nil, or_false] at hm
        rcases hm with rfl | rfl
        · refine RunI.callP rfl (isCall_func rfl ent_68) rfl rfl rfl (fun w hm => still_calls p hp q cap wk t hth.1 hth.2 wk bv w (hm.at (.head _))) (RunK.toA (.cons .here rfl .nil) (.cons .here rfl .nil) rfl ?_)
          refine RunA.val (i := 7) rfl (by kernel_rfl) (by kernel_rfl) (Val.pure rfl) rfl rfl rfl (fun _ _ _ h => h) (.cons .here rfl .nil) rfl ?_
          refine RunA.val (i := 8) rfl (by kernel_rfl) (by kernel_rfl) (Val.pure rfl) rfl rfl rfl (fun _ _ _ h => h) (.cons .here rfl .nil) rfl ?_
          refine RunA.val (i := 9) rfl (by kernel_rfl) (by kernel_rfl) (Val.pure rfl) rfl rfl rfl (fun _ _ _ h => h) (.cons .here rfl .nil) rfl ?_
          refine RunA.one (i := 10) (by kernel_rfl) (by kernel_rfl) ?_
          refine RunI.new rfl (New.alloc zero_98) rfl rfl rfl (fun b4 => (RunK.toA (.cons (.there .here) rfl .nil) (.cons .here rfl .nil) rfl ?_))
          refine RunA.one (i := 11) (by kernel_rfl) (by kernel_rfl) ?_
          refine RunI.sto rfl (Sto.store rfl rfl .here ty_98 rfl rfl) rfl rfl (RunK.toA (.cons (.there .here) rfl .nil) (.cons .here rfl .nil) rfl ?_)
          refine RunA.toB (by kernel_rfl) ?_
          refine RunB.one (i := 12) (by kernel_rfl) ?_
          refine RunI.val rfl (Val.pure rfl) rfl rfl rfl (RunK.toB ?_)
          refine RunB.done (by kernel_rfl) ?_
          exact RunE.join1 b4 (Sub.refl _) (Pick.refl _)
        · refine RunI.new rfl (New.alloc zero_98) rfl rfl rfl (fun b4 => (RunK.toA (.cons (.there .here) rfl .nil) (.cons .here rfl .nil) rfl ?_))
          refine RunA.one (i := 6) (by kernel_rfl) (by kernel_rfl) ?_
          refine RunI.callP rfl (isCall_func rfl ent_68) rfl rfl rfl (fun w hm => still_calls p hp q cap wk t hth.1 hth.2 wk bv w (hm.at (.head _))) (RunK.toA (.cons (.there .here) rfl .nil) (.cons .here rfl .nil) rfl ?_)
          refine RunA.val (i := 7) rfl (by kernel_rfl) (by kernel_rfl) (Val.pure rfl) rfl rfl rfl (fun _ _ _ h => h) (.cons (.there .here) rfl .nil) rfl ?_
          refine RunA.val (i := 8) rfl (by kernel_rfl) (by kernel_rfl) (Val.pure rfl) rfl rfl rfl (fun _ _ _ h => h) (.cons (.there .here) rfl .nil) rfl ?_
          refine RunA.val (i := 9) rfl (by kernel_rfl) (by kernel_rfl) (Val.pure rfl) rfl rfl rfl (fun _ _ _ h => h) (.cons (.there .here) rfl .nil) rfl ?_
          refine RunA.one (i := 11) (by kernel_rfl) (by kernel_rfl) ?_
          refine RunI.sto rfl (Sto.store rfl rfl .here ty_98 rfl rfl) rfl rfl (RunK.toA (.cons (.there .here) rfl .nil) (.cons .here rfl .nil) rfl ?_)
          refine RunA.toB (by kernel_rfl) ?_
          refine RunB.one (i := 12) (by kernel_rfl) ?_
          refine RunI.val rfl (Val.pure rfl) rfl rfl rfl (RunK.toB ?_)
          refine RunB.done (by kernel_rfl) ?_
          exact RunE.join1 b4 (Sub.cons (t := 5) rfl (Sub.cons (t := 4) rfl (Sub.cons (t := 58) rfl (Sub.cons (t := 57) rfl (Sub.cons (t := 49) rfl (Sub.cons (t := 56) rfl (Sub.cons (t := 55) rfl (Sub.cons (t := 54) rfl (Sub.cons (t := 53) rfl (Sub.cons (t := 52) rfl (Sub.cons (t := 51) rfl (Sub.cons (t := 50) rfl (Sub.skip rfl (Sub.skip rfl (Sub.skip rfl (Sub.skip rfl (Sub.skip rfl (Sub.skip rfl (Sub.skip rfl (Sub.skip rfl (Sub.skip rfl (Sub.skip rfl (Sub.skip rfl (Sub.skip rfl (Sub.refl _))))))))))))))))))))))))) (.cons .here rfl (.cons .here rfl .nil))
      refine J1.out (fun b4 => ?_)
      refine RunE.next ?_
      refine RunC.seq ?_
      refine RunC.region ?_
      refine RunL.val (Val.pure rfl) rfl rfl rfl ?_
      refine RunL.callT (isCall_func rfl ent_69) rfl rfl rfl (fun w hm => need_calls _ _ w) (fun e60 he60 => ?_) (fun v60 hv60 => ?_)
      · obtain ⟨er60, rfl⟩ := need_err he60
        refine RunE.pass_panic ?_
        refine RunE.block_panic ?_
        refine RunE.pass_panic ?_
        refine RunE.pass_panic ?_
        refine RunE.block_panic ?_
        refine RunE.scope_panic ?_
        exact RunE.panicTU (by rw [lookX, hl0, look_fail hk ht hwk (by simp [lookL, c1', er60])])
      obtain ⟨ok60, rfl⟩ := need_ok hv60
      refine RunL.nil ?_
      refine RunE.next ?_
      refine RunC.region ?_
      refine RunL.val (Val.pure rfl) rfl rfl rfl ?_
      refine RunL.val (Val.load_agg rfl (.tail _ (.head _)) ty_98 rfl) rfl rfl rfl ?_
      refine RunL.val (Val.pure rfl) rfl rfl rfl ?_
      refine RunL.val (Val.fieldAddr rfl fld_100_1) rfl rfl rfl ?_
      refine RunL.sto (Sto.store_chg rfl rfl .here ty_98 rfl rfl) rfl rfl ?_
      refine RunL.nil ?_
      refine RunE.block_normal ?_
      refine RunE.next ?_
      refine RunC.region ?_
      refine RunL.val (Val.add rfl rfl (IntWalk.i64_in _ ⟨by omega, by omega⟩)) rfl rfl rfl ?_
      refine RunL.val (Val.pure rfl) rfl rfl rfl ?_
      refine RunL.nil ?_
      exact RunE.round (by omega) (by first | (simp [look_step hk ht hwk, lookL, c1']; done) | simp [look_step hk ht hwk, lookL, c1', ok60]) (by first | (simp [look_step hk ht hwk, lookL, c1']; done) | (simp [look_step hk ht hwk, lookL, c1', ok60]; done) | (simp [look_step hk ht hwk, lookL, c1', ok60]; rfl)) (Sub.consE (t := 42) rfl rfl (Sub.cons (t := 0) rfl (Sub.cons (t := 40) rfl (Sub.cons (t := 41) rfl (Sub.nil _))))) .nil
  · intro c0
    have c0' := c0; clear c0
    try simp only [decide_eq_true_eq, decide_eq_false_iff_not, Bool.not_eq_true', Bool.not_eq_false', Bool.and_eq_true, Bool.or_eq_true, Bool.and_eq_false_iff, Bool.or_eq_false_iff, Int.not_le, Int.not_lt] at c0'
    obtain rfl : k = p.things.length := by omega
    rw [List.take_length] at hwk
    refine RunC.exit ?_
    refine RunE.pass_exit ?_
    refine RunE.pass_exit ?_
    refine RunE.block_here ?_
    refine RunE.scope_normal ?_
    exact RunE.finTU (.r0 rfl) (a := wk) (by rw [lookX, hl0, hwk]) rfl rfl
theorem truths_calls (p : Pr) (q : Option Addr) (b o cap : Nat) (l : List Int) (q2 : Option Addr) (bb oo cap2 : Nat) (W : World) (hS : Sl W q b o 9 (p.things.map Th.cells)) (hl : p.things.length ≤ 100000000000) (hL : Sl W q2 bb oo 1 (l.map fun n => [.int .i64 n])) (hl2 : l.length ≤ 100000) :
    Calls Try.prog 67 #[p.v q cap, .slice q2 l.length cap2] W (TryN misf (truthsX p l) (fun _ b => .pointer (some ⟨b, 0, none⟩)) (fun w b => [(b, .cells (vwCells p q cap w).toArray 100 (0, 0))]) W) := by
  refine calls_start Try.func67 rfl rfl ?_
  refine RunC.seq ?_
  refine RunC.region ?_
  refine RunL.new (New.box rfl) rfl rfl rfl (fun b2 => ?_)
  refine RunL.val (Val.pure rfl) rfl rfl rfl ?_
  refine RunL.nil ?_
  refine RunE.next ?_
  refine RunC.seq ?_
  refine RunC.region ?_
  refine RunL.val (Val.load_agg rfl (.head _) ty_26 rfl) rfl rfl rfl ?_
  refine RunL.val (Val.pure rfl) rfl rfl rfl ?_
  refine RunL.callTN (isCall_func rfl ent_85) rfl rfl rfl (fun w hm => open_calls p q b o cap l q2 bb oo cap2 w (hS.mono (by decide) hm (by simp)) hl (hL.mono (by decide) hm (by simp)) hl2) (fun e8 he8 => ?_) (fun a8 ha8 b8 => ?_)
  · refine RunE.pass_panic ?_
    exact RunE.panicTN (by simp [truthsX, he8])
  refine RunL.val (Val.pure rfl) rfl rfl rfl ?_
  refine RunL.nil ?_
  refine RunE.next ?_
  refine RunC.seq ?_
  refine RunC.region ?_
  refine RunL.val (Val.pure rfl) rfl rfl rfl ?_
  refine RunL.callTU (isCall_func rfl ent_86) rfl rfl rfl (fun _ => .here) (fun w hm => look_calls p (isPair_ok (openX_ok ha8).1) q b o cap (0, 0) _ w (hm.at (.head _)) (hS.mono (by decide) hm (by simp)) (hS.ne (by decide) hm (.head _))) (fun e10 he10 o10 => ?_) (fun a10 ha10 => ?_)
  · refine RunE.pass_panic ?_
    exact RunE.panicTN (by simp [truthsX, ha8, he10])
  refine RunL.nil ?_
  refine RunE.next ?_
  refine RunC.seq ?_
  refine RunC.region ?_
  refine RunL.val (Val.pure rfl) rfl rfl rfl ?_
  refine RunL.val (Val.pure rfl) rfl rfl rfl ?_
  refine RunL.nil ?_
  refine RunE.next ?_
  refine RunC.ret ?_
  exact RunE.retTN (a := a10) b8 (.r1 rfl (.tmp rfl)) (by simp [truthsX, ha8, ha10]) rfl (.cons .here rfl .nil)
end Go.Proofs.Ytjijeeadmhpfcaa
/- Package pair: the deferred function that turns the panic of need into its error. -/
set_option linter.unusedSimpArgs false
set_option linter.unusedVariables false
namespace Go.Proofs.Ytjijeeadmhpfcaa
open Go Go.Eng Go.Pw1

theorem caught_calm (b : Nat) (w : World) : CallsD Try.prog 66 #[.pointer (some ⟨b, 0, none⟩)] .returning w fun e u w' => (∃ v, e = .returned v) ∧ u = .returning ∧ Mem w [] [] w' := by
  refine callsD_of_wpS Try.func66 rfl fun c₀ cs hu => ?_
  refine wpS_seq ?_
  refine wpS_region ?_
  simp [wpOpsS, go_sem, recoverD, hu, Try.ntmps66, Exit.thenS]
  refine wpS_of_wp ?_
  refine RunC.at 20 [(0, .pointer (some ⟨b, 0, none⟩)), (2, .nilIface)] w [] ?_ ?_
  · exact ⟨by simp, .consA (by simp) (.consA (by simp [Array.getElem?_append]) (Agree.nil _)), rfl, Mem.refl w⟩
  refine RunC.seq ?_
  refine RunC.region ?_
  refine RunL.val (Val.pure rfl) rfl rfl rfl ?_
  refine RunL.val (Val.neq_nil_nil rfl und_20) rfl rfl rfl ?_
  refine RunL.nil ?_
  refine RunE.next ?_
  refine RunC.cond rfl (fun h => absurd h (by simp)) ?_
  intro c0
  clear c0
  refine RunC.skip ?_
  intro a w2 s
  exact ⟨s.defers, .returning, by rw [← hu], _, results_none rfl _ _ _, ⟨_, rfl⟩, rfl, s.mem.drop⟩
theorem caught_wild (b : Nat) (k : Int) (x : Value) (w : World) (hb : w.heap[b]? = some (.cells #[x] 31 (0, 0))) : CallsD Try.prog 66 #[.pointer (some ⟨b, 0, none⟩)] (.panicking [{ v := misf k, recovered := false }]) w fun e u w' =>
    (∃ v, e = .returned v) ∧ u = .panicking [{ v := misf k, recovered := true }] ∧ Mem w [(b, .cells #[.int .i64 k] 31 (0, 0))] [] w' := by
  refine callsD_of_wpS Try.func66 rfl fun c₀ cs hu => ?_
  refine wpS_seq ?_
  refine wpS_region ?_
  simp [wpOpsS, go_sem, recoverD, hu, Try.ntmps66, Exit.thenS]
  refine wpS_of_wp ?_
  refine RunC.at 20 [(0, .pointer (some ⟨b, 0, none⟩)), (2, misf k)] w [(b, .cells #[x] 31 (0, 0))] ?_ ?_
  · exact ⟨by simp, .consA (by simp) (.consA (by simp [Array.getElem?_append]) (Agree.nil _)), rfl, Mem.start hb⟩
  refine RunC.seq ?_
  refine RunC.region ?_
  refine RunL.val (Val.pure rfl) rfl rfl rfl ?_
  refine RunL.val (Val.neq_iface_nil rfl und_20) rfl rfl rfl ?_
  refine RunL.nil ?_
  refine RunE.next ?_
  refine RunC.cond rfl ?_ (fun h => absurd h (by simp))
  intro c0
  clear c0
  refine RunC.seq ?_
  refine RunC.region ?_
  refine RunL.val (Val.pure rfl) rfl rfl rfl ?_
  refine RunL.val (Val.assert_ok rfl noif_131) rfl rfl rfl ?_
  iterate 3 refine RunL.val (Val.pure rfl) rfl rfl rfl ?_
  refine RunL.new (New.alloc zero_131) rfl rfl rfl (fun b3 => ?_)
  refine RunL.sto (Sto.store rfl rfl .here ty_131 rfl rfl) rfl rfl ?_
  refine RunL.val (Val.pure rfl) rfl rfl rfl ?_
  refine RunL.nil ?_
  refine RunE.next ?_
  refine RunC.seq ?_
  refine RunC.seq ?_
  refine RunC.region ?_
  refine RunL.val (Val.pure rfl) rfl rfl rfl ?_
  refine RunL.val (Val.pure rfl) rfl rfl rfl ?_
  refine RunL.nil ?_
  refine RunE.next ?_
  refine RunC.cond rfl (fun h => absurd h (by simp)) ?_
  intro c1
  clear c1
  refine RunC.skip ?_
  refine RunE.next ?_
  refine RunC.region ?_
  refine RunL.val (Val.pure rfl) rfl rfl rfl ?_
  refine RunL.val (Val.fieldAddr rfl fld_131_0) rfl rfl rfl ?_
  refine RunL.val (Val.load_one rfl (.tail _ (.head _)) ty_31 rfl) rfl rfl rfl ?_
  refine RunL.val (Val.pure rfl) rfl rfl rfl ?_
  refine RunL.sto (Sto.store_chg rfl rfl .here ty_31 rfl rfl) rfl rfl ?_
  refine RunL.nil ?_
  intro a w2 s
  exact ⟨s.defers, .panicking [{ v := misf k, recovered := true }], rfl, _, results_none rfl _ _ _, ⟨_, rfl⟩, rfl, s.mem.drop⟩
theorem catches : Catches Try.prog 66 31 misf := ⟨caught_calm, fun b k x w h => caught_wild b k x w h⟩
end Go.Proofs.Ytjijeeadmhpfcaa
/- Walks of package pair: Shift, Nearer, Power, Stands. -/
set_option linter.unusedSimpArgs false
set_option linter.unusedVariables false
namespace Go.Proofs.Ytjijeeadmhpfcaa
open Go Go.Eng Go.Pw1

theorem Power_calls (p : Pr) (q : Option Addr) (b o cap : Nat) (W : World) (hS : Sl W q b o 9 (p.things.map Th.cells)) (hl : p.things.length ≤ 100000000000) :
    Calls Try.prog 74 #[p.v q cap] W (Pure (.tuple #[b2v (powerX p).1, .int .i64 (powerX p).2]) W) := by
  refine calls_start_defers Try.func74 rfl rfl ?_
  refine RunC.seq ?_
  refine RunC.region ?_
  refine RunL.new (New.box rfl) rfl rfl rfl (fun b1 => ?_)
  refine RunL.new (New.alloc zero_23) rfl rfl rfl (fun b2 => ?_)
  refine RunL.new (New.alloc zero_31) rfl rfl rfl (fun b3 => ?_)
  refine RunL.nil ?_
  refine RunE.next ?_
  refine RunC.seq ?_
  refine RunC.region ?_
  refine RunL.defer rfl ?_
  refine RunL.nil ?_
  refine RunE.next ?_
  refine RunC.seq ?_
  refine RunC.region ?_
  refine RunL.val (Val.load_agg rfl (.tail _ (.tail _ (.head _))) ty_26 rfl) rfl rfl rfl ?_
  refine RunL.callTN (isCall_func rfl ent_67) rfl rfl rfl (fun w hm => truths_calls p q b o cap [] _ 0 0 _ w (hS.mono (by decide) hm (by simp)) hl Sl.emp (by simp)) (fun e5 he5 => ?_) (fun a5 ha5 b5 => ?_)
  · refine RunE.pass_panic ?_
    exact RunE.panD catches ent_66 .here (.r2 rfl (.agg rfl (.tail _ (.head _)) ty_23 rfl) (.one rfl (.head _) ty_31 rfl)) (by simp [b2v, powerX, he5])
  refine RunL.val (Val.pure rfl) rfl rfl rfl ?_
  refine RunL.val (Val.fieldAddr rfl fld_100_1) rfl rfl rfl ?_
  refine RunL.val (Val.load_agg rfl (.head _) ty_98 rfl) rfl rfl rfl ?_
  refine RunL.callP (isCall_func rfl ent_72) rfl rfl rfl (fun w hm => spanOf_calls a5 w) ?_
  refine RunL.sto (Sto.store rfl rfl (.there (.there .here)) ty_23 rfl rfl) rfl rfl ?_
  refine RunL.sto (Sto.store rfl rfl (.there .here) ty_31 rfl rfl) rfl rfl ?_
  refine RunL.nil ?_
  refine RunE.next ?_
  refine RunC.ret ?_
  exact RunE.retD catches ent_66 (.r2 rfl (.agg rfl (.tail _ (.tail _ (.head _))) ty_23 rfl) (.one rfl (.tail _ (.head _)) ty_31 rfl)) (by simp [b2v, powerX, ha5])
end Go.Proofs.Ytjijeeadmhpfcaa
/- Walks of package pair: why a thing moves, and how far off it stands. -/
set_option linter.unusedSimpArgs false
set_option linter.unusedVariables false
namespace Go.Proofs.Ytjijeeadmhpfcaa
open Go Go.Eng Go.Pw1

end Go.Proofs.Ytjijeeadmhpfcaa
/- Walks of package pair: Why, Distance. -/
set_option linter.unusedSimpArgs false
set_option linter.unusedVariables false
namespace Go.Proofs.Ytjijeeadmhpfcaa
open Go Go.Eng Go.Pw1

theorem Distance_calls (p : Pr) (n : Int) (q : Option Addr) (b o cap : Nat) (W : World) (hS : Sl W q b o 9 (p.things.map Th.cells)) (hl : p.things.length ≤ 100000000000) :
    Calls Try.prog 27 #[p.v q cap, .int .i64 n] W (Pure (.tuple #[b2v (distX p n).1, .int .i64 (distX p n).2]) W) := by
  refine calls_start_defers Try.func27 rfl rfl ?_
  refine RunC.seq ?_
  refine RunC.region ?_
  refine RunL.new (New.box rfl) rfl rfl rfl (fun b2 => ?_)
  refine RunL.new (New.alloc zero_23) rfl rfl rfl (fun b4 => ?_)
  refine RunL.new (New.alloc zero_31) rfl rfl rfl (fun b5 => ?_)
  refine RunL.nil ?_
  refine RunE.next ?_
  refine RunC.seq ?_
  refine RunC.region ?_
  refine RunL.defer rfl ?_
  refine RunL.nil ?_
  refine RunE.next ?_
  refine RunC.seq ?_
  refine RunC.region ?_
  refine RunL.val (Val.load_agg rfl (.tail _ (.tail _ (.head _))) ty_26 rfl) rfl rfl rfl ?_
  refine RunL.val (Val.pure rfl) rfl rfl rfl ?_
  refine RunL.new (New.buildSlice (parts := [(0, .tmp 16)]) rfl sl_119 zero_3 rfl rfl rfl rfl) rfl rfl rfl (fun b17 => ?_)
  refine RunL.callTN (isCall_func rfl ent_67) rfl rfl rfl (fun w hm => truths_calls p q b o cap [_] _ _ _ _ w (hS.mono (by decide) hm (by simp)) hl (Sl.row1 (hm.at (.head _))) (by simp)) (fun e18 he18 => ?_) (fun a18 ha18 b18 => ?_)
  · refine RunE.pass_panic ?_
    exact RunE.panD catches ent_66 (.there .here) (.r2 rfl (.agg rfl (.tail _ (.tail _ (.head _))) ty_23 rfl) (.one rfl (.tail _ (.head _)) ty_31 rfl)) (by simp [distX, he18, b2v])
  obtain ⟨hp, hop, wb1, wb2, wb3⟩ := truths_bd ha18
  obtain ⟨k, rfl, hk⟩ := openX_in hop (List.mem_singleton.2 rfl)
  obtain ⟨t, ht⟩ : ∃ t, p.things[k] = t := ⟨_, rfl⟩
  have hth := hp.ths _ (List.getElem_mem hk)
  rw [ht] at hth
  have n1 := hp.n1
  have n2 := hp.n2
  have n3 := hp.n3
  refine RunL.val (Val.pure rfl) rfl rfl rfl ?_
  refine RunL.nil ?_
  refine RunE.next ?_
  refine RunC.seq ?_
  refine RunC.region ?_
  refine RunL.val (Val.pure rfl) rfl rfl rfl ?_
  refine RunL.val (Val.pure rfl) rfl rfl rfl ?_
  refine RunL.val (Val.fieldAddr rfl fld_100_0) rfl rfl rfl ?_
  refine RunL.val (Val.fieldAddr rfl fld_26_5) rfl rfl rfl ?_
  refine RunL.val (Val.load_one rfl (.head _) ty_24 rfl) rfl rfl rfl ?_
  refine RunL.val (Val.pure rfl) rfl rfl rfl ?_
  refine RunL.val (Val.indexAddr_slp rfl rfl sl_24 (by omega) (by omega) (hS.ptrM hk)) rfl rfl rfl ?_
  refine RunL.val (Val.load_gen rfl (fun w hm => hS.loadX (by decide) hm (by simp) ty_54 hk ht)) rfl rfl rfl ?_
  refine RunL.new (New.alloc zero_54) rfl rfl rfl (fun b7 => ?_)
  refine RunL.sto (Sto.store rfl rfl .here ty_54 rfl rfl) rfl rfl ?_
  refine RunL.nil ?_
  refine RunE.next ?_
  refine RunC.seq ?_
  apply RunC.drawNJ (J := J1 _ _ _ _ _ _) 12 fol_ (.cons .here rfl (.cons .here rfl (.cons .here rfl (.cons .here rfl (.cons .here rfl (.cons .here rfl .nil))))))
  · refine RunA.val (i := 0) rfl (by kernel_rfl) (by kernel_rfl) (Val.pure rfl) rfl rfl rfl (fun _ _ _ h => h) (.cons .here rfl (.cons .here rfl (.cons .here rfl (.cons .here rfl (.cons .here rfl (.cons .here rfl .nil)))))) rfl ?_
    refine RunA.val (i := 1) rfl (by kernel_rfl) (by kernel_rfl) (Val.load_agg rfl (.head _) ty_54 rfl) rfl rfl rfl (fun _ _ _ h => h) (.cons .here rfl (.cons .here rfl (.cons .here rfl (.cons .here rfl (.cons .here rfl (.cons .here rfl .nil)))))) rfl ?_
    refine RunA.val (i := 2) rfl (by kernel_rfl) (by kernel_rfl) (Val.pure rfl) rfl rfl rfl (fun _ _ _ h => h) (.cons .here rfl (.cons .here rfl (.cons .here rfl (.cons .here rfl (.cons .here rfl (.cons .here rfl .nil)))))) rfl ?_
    refine RunA.val (i := 3) rfl (by kernel_rfl) (by kernel_rfl) (Val.pure rfl) rfl rfl rfl (fun _ _ _ h => h) (.cons .here rfl (.cons .here rfl (.cons .here rfl (.cons .here rfl (.cons .here rfl (.cons .here rfl .nil)))))) rfl ?_
    refine RunA.val (i := 4) rfl (by kernel_rfl) (by kernel_rfl) (Val.fieldAddr rfl fld_100_1) rfl rfl rfl (fun _ _ _ h => h) (.cons .here rfl (.cons .here rfl (.cons .here rfl (.cons .here rfl (.cons .here rfl (.cons .here rfl .nil)))))) rfl ?_
    refine RunA.val (i := 5) rfl (by kernel_rfl) (by kernel_rfl) (Val.load_agg rfl (.tail _ (.head _)) ty_98 rfl) rfl rfl rfl (fun _ _ _ h => h) (.cons .here rfl (.cons .here rfl (.cons .here rfl (.cons .here rfl (.cons .here rfl (.cons .here rfl .nil)))))) rfl ?_
    refine RunA.all (rs := [6, 10]) (by kernel_rfl) (by simp) (by kernel_rfl) (fun m hm => ?_)
    simp only [List.mem_cons, List.not_mem_nil, or_false] at hm
    rcases hm with rfl | rfl
    · refine RunI.callP rfl (isCall_func rfl ent_68) rfl rfl rfl (fun w hm => still_calls p hp q cap a18 t hth.1 hth.2 a18 _ w (hm.at (.tail _ (.head _)))) (RunK.toA (.cons .here rfl (.cons .here rfl (.cons .here rfl (.cons .here rfl (.cons .here rfl (.cons .here rfl .nil)))))) (.cons .here rfl (.cons .here rfl (.cons .here rfl (.cons .here rfl (.cons .here rfl (.cons .here rfl .nil)))))) rfl ?_)
      refine RunA.val (i := 7) rfl (by kernel_rfl) (by kernel_rfl) (Val.pure rfl) rfl rfl rfl (fun _ _ _ h => h) (.cons .here rfl (.cons .here rfl (.cons .here rfl (.cons .here rfl (.cons .here rfl (.cons .here rfl .nil)))))) rfl ?_
      refine RunA.val (i := 8) rfl (by kernel_rfl) (by kernel_rfl) (Val.pure rfl) rfl rfl rfl (fun _ _ _ h => h) (.cons .here rfl (.cons .here rfl (.cons .here rfl (.cons .here rfl (.cons .here rfl (.cons .here rfl .nil)))))) rfl ?_
      refine RunA.val (i := 9) rfl (by kernel_rfl) (by kernel_rfl) (Val.pure rfl) rfl rfl rfl (fun _ _ _ h => h) (.cons .here rfl (.cons .here rfl (.cons .here rfl (.cons .here rfl (.cons .here rfl (.cons .here rfl .nil)))))) rfl ?_
      refine RunA.one (i := 10) (by kernel_rfl) (by kernel_rfl) ?_
      refine RunI.new rfl (New.alloc zero_98) rfl rfl rfl (fun b8 => (RunK.toA (.cons (.there .here) rfl (.cons (.there .here) rfl (.cons (.there .here) rfl (.cons (.there .here) rfl (.cons (.there .here) rfl (.cons (.there .here) rfl .nil)))))) (.cons .here rfl (.cons .here rfl (.cons .here rfl (.cons .here rfl (.cons .here rfl (.cons .here rfl .nil)))))) rfl ?_))
      refine RunA.one (i := 11) (by kernel_rfl) (by kernel_rfl) ?_
      refine RunI.sto rfl (Sto.store rfl rfl .here ty_98 rfl rfl) rfl rfl (RunK.toA (.cons (.there .here) rfl (.cons (.there .here) rfl (.cons (.there .here) rfl (.cons (.there .here) rfl (.cons (.there .here) rfl (.cons (.there .here) rfl .nil)))))) (.cons .here rfl (.cons .here rfl (.cons .here rfl (.cons .here rfl (.cons .here rfl (.cons .here rfl .nil)))))) rfl ?_)
      refine RunA.toB (by kernel_rfl) ?_
      refine RunB.one (i := 12) (by kernel_rfl) ?_
      refine RunI.val rfl (Val.pure rfl) rfl rfl rfl (RunK.toB ?_)
      refine RunB.done (by kernel_rfl) ?_
      refine RunE.noPan ?_
      exact RunE.join1 b8 (Sub.refl _) (Pick.refl _)
    · refine RunI.new rfl (New.alloc zero_98) rfl rfl rfl (fun b8 => (RunK.toA (.cons (.there .here) rfl (.cons (.there .here) rfl (.cons (.there .here) rfl (.cons (.there .here) rfl (.cons (.there .here) rfl (.cons (.there .here) rfl .nil)))))) (.cons .here rfl (.cons .here rfl (.cons .here rfl (.cons .here rfl (.cons .here rfl (.cons .here rfl .nil)))))) rfl ?_))
      refine RunA.one (i := 6) (by kernel_rfl) (by kernel_rfl) ?_
      refine RunI.callP rfl (isCall_func rfl ent_68) rfl rfl rfl (fun w hm => still_calls p hp q cap a18 t hth.1 hth.2 a18 _ w (hm.at (.tail _ (.tail _ (.head _))))) (RunK.toA (.cons (.there .here) rfl (.cons (.there .here) rfl (.cons (.there .here) rfl (.cons (.there .here) rfl (.cons (.there .here) rfl (.cons (.there .here) rfl .nil)))))) (.cons .here rfl (.cons .here rfl (.cons .here rfl (.cons .here rfl (.cons .here rfl (.cons .here rfl .nil)))))) rfl ?_)
      refine RunA.val (i := 7) rfl (by kernel_rfl) (by kernel_rfl) (Val.pure rfl) rfl rfl rfl (fun _ _ _ h => h) (.cons (.there .here) rfl (.cons (.there .here) rfl (.cons (.there .here) rfl (.cons (.there .here) rfl (.cons (.there .here) rfl (.cons (.there .here) rfl .nil)))))) rfl ?_
      refine RunA.val (i := 8) rfl (by kernel_rfl) (by kernel_rfl) (Val.pure rfl) rfl rfl rfl (fun _ _ _ h => h) (.cons (.there .here) rfl (.cons (.there .here) rfl (.cons (.there .here) rfl (.cons (.there .here) rfl (.cons (.there .here) rfl (.cons (.there .here) rfl .nil)))))) rfl ?_
      refine RunA.val (i := 9) rfl (by kernel_rfl) (by kernel_rfl) (Val.pure rfl) rfl rfl rfl (fun _ _ _ h => h) (.cons (.there .here) rfl (.cons (.there .here) rfl (.cons (.there .here) rfl (.cons (.there .here) rfl (.cons (.there .here) rfl (.cons (.there .here) rfl .nil)))))) rfl ?_
      refine RunA.one (i := 11) (by kernel_rfl) (by kernel_rfl) ?_
      refine RunI.sto rfl (Sto.store rfl rfl .here ty_98 rfl rfl) rfl rfl (RunK.toA (.cons (.there .here) rfl (.cons (.there .here) rfl (.cons (.there .here) rfl (.cons (.there .here) rfl (.cons (.there .here) rfl (.cons (.there .here) rfl .nil)))))) (.cons .here rfl (.cons .here rfl (.cons .here rfl (.cons .here rfl (.cons .here rfl (.cons .here rfl .nil)))))) rfl ?_)
      refine RunA.toB (by kernel_rfl) ?_
      refine RunB.one (i := 12) (by kernel_rfl) ?_
      refine RunI.val rfl (Val.pure rfl) rfl rfl rfl (RunK.toB ?_)
      refine RunB.done (by kernel_rfl) ?_
      refine RunE.noPan ?_
      exact RunE.join1 b8 (Sub.cons (t := 9) rfl (Sub.cons (t := 8) rfl (Sub.cons (t := 36) rfl (Sub.cons (t := 35) rfl (Sub.cons (t := 27) rfl (Sub.cons (t := 34) rfl (Sub.cons (t := 33) rfl (Sub.cons (t := 32) rfl (Sub.cons (t := 31) rfl (Sub.cons (t := 30) rfl (Sub.cons (t := 29) rfl (Sub.cons (t := 28) rfl (Sub.skip rfl (Sub.skip rfl (Sub.skip rfl (Sub.skip rfl (Sub.skip rfl (Sub.skip rfl (Sub.skip rfl (Sub.skip rfl (Sub.skip rfl (Sub.skip rfl (Sub.skip rfl (Sub.skip rfl (Sub.refl _))))))))))))))))))))))))) (.cons .here rfl (.cons .here rfl (.cons .here rfl (.cons .here rfl (.cons .here rfl (.cons .here rfl (.cons .here rfl .nil)))))))
  refine J1.out (fun b8 => ?_)
  refine RunE.next ?_
  refine RunC.seq ?_
  refine RunC.region ?_
  refine RunL.val (Val.pure rfl) rfl rfl rfl ?_
  refine RunL.callT (isCall_func rfl ent_69) rfl rfl rfl (fun w hm => need_calls _ _ w) (fun e38 he38 => ?_) (fun v38 hv38 => ?_)
  · obtain ⟨er38, rfl⟩ := need_err he38
    refine RunE.pass_panic ?_
    exact RunE.panD catches ent_66 (.there (.there (.there (.there .here)))) (.r2 rfl (.agg rfl (.tail _ (.tail _ (.tail _ (.tail _ (.tail _ (.head _)))))) ty_23 rfl) (.one rfl (.tail _ (.tail _ (.tail _ (.tail _ (.head _))))) ty_31 rfl)) (by simp [distX, ha18, thingAt_eq hk ht, er38, b2v])
  obtain ⟨ok38, rfl⟩ := need_ok hv38
  refine RunL.nil ?_
  refine RunE.next ?_
  refine RunC.seq ?_
  refine RunC.seq ?_
  refine RunC.region ?_
  refine RunL.val (Val.fieldAddr rfl fld_54_2) rfl rfl rfl ?_
  refine RunL.val (Val.load_one rfl (.tail _ (.head _)) ty_3 rfl) rfl rfl rfl ?_
  refine RunL.val (Val.pure rfl) rfl rfl rfl ?_
  refine RunL.nil ?_
  refine RunE.next ?_
  refine RunC.cond rfl ?_ ?_
  · intro c0
    have c0' := c0; clear c0
    try simp only [decide_eq_true_eq, decide_eq_false_iff_not, Bool.not_eq_true', Bool.not_eq_false', Bool.and_eq_true, Bool.or_eq_true, Bool.and_eq_false_iff, Bool.or_eq_false_iff, Int.not_le, Int.not_lt] at c0'
    refine RunC.seq ?_
    refine RunC.region ?_
    refine RunL.val (Val.fieldAddr rfl fld_54_2) rfl rfl rfl ?_
    refine RunL.val (Val.load_one rfl (.tail _ (.head _)) ty_3 rfl) rfl rfl rfl ?_
    refine RunL.val (Val.fieldAddr rfl fld_54_2) rfl rfl rfl ?_
    refine RunL.val (Val.load_one rfl (.tail _ (.head _)) ty_3 rfl) rfl rfl rfl ?_
    refine RunL.val (Val.build (parts := [(0, .tmp 43), (1, .tmp 45)]) rfl zero_23 places_23 rfl) rfl rfl rfl ?_
    refine RunL.sto (Sto.store rfl rfl (.there (.there (.there (.there (.there .here))))) ty_23 rfl rfl) rfl rfl ?_
    refine RunL.sto (Sto.store rfl rfl (.there (.there (.there (.there .here)))) ty_31 rfl rfl) rfl rfl ?_
    refine RunL.nil ?_
    refine RunE.next ?_
    refine RunC.ret ?_
    refine RunE.pass_ret ?_
    exact RunE.retD catches ent_66 (.r2 rfl (.agg rfl (.tail _ (.tail _ (.tail _ (.tail _ (.tail _ (.head _)))))) ty_23 rfl) (.one rfl (.tail _ (.tail _ (.tail _ (.tail _ (.head _))))) ty_31 rfl)) (by simp [distX, ha18, thingAt_eq hk ht, ok38, c0', b2v])
  · intro c0
    have c0' := c0; clear c0
    try simp only [decide_eq_true_eq, decide_eq_false_iff_not, Bool.not_eq_true', Bool.not_eq_false', Bool.and_eq_true, Bool.or_eq_true, Bool.and_eq_false_iff, Bool.or_eq_false_iff, Int.not_le, Int.not_lt] at c0'
    have sb := shown_bd (still_isB ok38).1
    refine RunC.skip ?_
    refine RunE.next ?_
    refine RunC.seq ?_
    refine RunC.region ?_
    refine RunL.val (Val.load_agg rfl (.tail _ (.head _)) ty_54 rfl) rfl rfl rfl ?_
    refine RunL.callP (isCall_func rfl ent_70) rfl rfl rfl (fun w hm => shown_calls t hth.1 w) ?_
    iterate 3 refine RunL.val (Val.pure rfl) rfl rfl rfl ?_
    refine RunL.new (New.alloc zero_98) rfl rfl rfl (fun b10 => ?_)
    refine RunL.sto (Sto.store rfl rfl .here ty_98 rfl rfl) rfl rfl ?_
    refine RunL.val (Val.pure rfl) rfl rfl rfl ?_
    refine RunL.nil ?_
    refine RunE.next ?_
    refine RunC.seq ?_
    refine RunC.region ?_
    refine RunL.val (Val.pure rfl) rfl rfl rfl ?_
    refine RunL.val (Val.pure rfl) rfl rfl rfl ?_
    refine RunL.val (Val.fieldAddr rfl fld_100_0) rfl rfl rfl ?_
    refine RunL.val (Val.fieldAddr rfl fld_26_4) rfl rfl rfl ?_
    refine RunL.val (Val.load_one rfl (.tail _ (.tail _ (.tail _ (.head _)))) ty_3 rfl) rfl rfl rfl ?_
    refine RunL.val (Val.pure rfl) rfl rfl rfl ?_
    refine RunL.nil ?_
    refine RunE.next ?_
    refine RunC.seq ?_
    refine RunC.seq ?_
    refine RunC.region ?_
    refine RunL.val (Val.indexAddr_arr rfl rfl arr_98 (by decide) (by decide)) rfl rfl rfl ?_
    refine RunL.val (Val.load_one rfl (.head _) ty_3 rfl) rfl rfl rfl ?_
    refine RunL.val (Val.pure rfl) rfl rfl rfl ?_
    refine RunL.nil ?_
    refine RunE.next ?_
    refine RunC.cond rfl ?_ ?_
    · intro c1
      have c1' := c1; clear c1
      try simp only [decide_eq_true_eq, decide_eq_false_iff_not, Bool.not_eq_true', Bool.not_eq_false', Bool.and_eq_true, Bool.or_eq_true, Bool.and_eq_false_iff, Bool.or_eq_false_iff, Int.not_le, Int.not_lt] at c1'
      refine RunC.drawN 7 fol_ (.cons .here rfl (.cons .here rfl (.cons .here rfl (.cons .here rfl (.cons .here rfl (.cons .here rfl (.cons .here rfl (.cons .here rfl .nil)))))))) ?_
      refine RunA.val (i := 0) rfl (by kernel_rfl) (by kernel_rfl) (Val.pure rfl) rfl rfl rfl (fun _ _ _ h => h) (.cons .here rfl (.cons .here rfl (.cons .here rfl (.cons .here rfl (.cons .here rfl (.cons .here rfl (.cons .here rfl (.cons .here rfl .nil)))))))) rfl ?_
      refine RunA.val (i := 1) rfl (by kernel_rfl) (by kernel_rfl) (Val.pure rfl) rfl rfl rfl (fun _ _ _ h => h) (.cons .here rfl (.cons .here rfl (.cons .here rfl (.cons .here rfl (.cons .here rfl (.cons .here rfl (.cons .here rfl (.cons .here rfl .nil)))))))) rfl ?_
      refine RunA.val (i := 2) rfl (by kernel_rfl) (by kernel_rfl) (Val.fieldAddr rfl fld_100_1) rfl rfl rfl (fun _ _ _ h => h) (.cons .here rfl (.cons .here rfl (.cons .here rfl (.cons .here rfl (.cons .here rfl (.cons .here rfl (.cons .here rfl (.cons .here rfl .nil)))))))) rfl ?_
      refine RunA.val (i := 3) rfl (by kernel_rfl) (by kernel_rfl) (Val.indexAddr_arr rfl rfl arr_98 (by decide) (by decide)) rfl rfl rfl (fun _ _ _ h => h) (.cons .here rfl (.cons .here rfl (.cons .here rfl (.cons .here rfl (.cons .here rfl (.cons .here rfl (.cons .here rfl (.cons .here rfl .nil)))))))) rfl ?_
      refine RunA.val (i := 4) rfl (by kernel_rfl) (by kernel_rfl) (Val.load_one rfl (.tail _ (.tail _ (.tail _ (.head _)))) ty_3 rfl) rfl rfl rfl (fun _ _ _ h => h) (.cons .here rfl (.cons .here rfl (.cons .here rfl (.cons .here rfl (.cons .here rfl (.cons .here rfl (.cons .here rfl (.cons .here rfl .nil)))))))) rfl ?_
      refine RunA.val (i := 5) rfl (by kernel_rfl) (by kernel_rfl) (Val.indexAddr_arr rfl rfl arr_98 (by decide) (by decide)) rfl rfl rfl (fun _ _ _ h => h) (.cons .here rfl (.cons .here rfl (.cons .here rfl (.cons .here rfl (.cons .here rfl (.cons .here rfl (.cons .here rfl (.cons .here rfl .nil)))))))) rfl ?_
      refine RunA.val (i := 6) rfl (by kernel_rfl) (by kernel_rfl) (Val.load_one rfl (.head _) ty_3 rfl) rfl rfl rfl (fun _ _ _ h => h) (.cons .here rfl (.cons .here rfl (.cons .here rfl (.cons .here rfl (.cons .here rfl (.cons .here rfl (.cons .here rfl (.cons .here rfl .nil)))))))) rfl ?_
      refine RunA.toB (by kernel_rfl) ?_
      refine RunB.one (i := 7) (by kernel_rfl) ?_
      refine RunI.val rfl (Val.quo rfl rfl (by omega) (by omega) (IntWalk.i64_in _ (div_rng (by omega) (by omega) (by omega)))) rfl rfl rfl (RunK.toB ?_)
      refine RunB.one (i := 8) (by kernel_rfl) ?_
      refine RunI.val rfl (Val.pure rfl) rfl rfl rfl (RunK.toB ?_)
      refine RunB.done (by kernel_rfl) ?_
      refine RunE.noPan ?_
      refine RunE.next ?_
      refine RunC.seq ?_
      apply RunC.drawNJ (J := J2 _ _ _ _ _ _) 30 fol_ (.cons .here rfl (.cons .here rfl (.cons .here rfl (.cons .here rfl (.cons .here rfl (.cons .here rfl (.cons .here rfl (.cons .here rfl .nil))))))))
      · refine RunA.val (i := 0) rfl (by kernel_rfl) (by kernel_rfl) (Val.pure rfl) rfl rfl rfl (fun _ _ _ h => h) (.cons .here rfl (.cons .here rfl (.cons .here rfl (.cons .here rfl (.cons .here rfl (.cons .here rfl (.cons .here rfl (.cons .here rfl .nil)))))))) rfl ?_
        refine RunA.val (i := 1) rfl (by kernel_rfl) (by kernel_rfl) (Val.pure rfl) rfl rfl rfl (fun _ _ _ h => h) (.cons .here rfl (.cons .here rfl (.cons .here rfl (.cons .here rfl (.cons .here rfl (.cons .here rfl (.cons .here rfl (.cons .here rfl .nil)))))))) rfl ?_
        refine RunA.val (i := 2) rfl (by kernel_rfl) (by kernel_rfl) (Val.fieldAddr rfl fld_100_0) rfl rfl rfl (fun _ _ _ h => h) (.cons .here rfl (.cons .here rfl (.cons .here rfl (.cons .here rfl (.cons .here rfl (.cons .here rfl (.cons .here rfl (.cons .here rfl .nil)))))))) rfl ?_
        refine RunA.val (i := 3) rfl (by kernel_rfl) (by kernel_rfl) (Val.fieldAddr rfl fld_26_3) rfl rfl rfl (fun _ _ _ h => h) (.cons .here rfl (.cons .here rfl (.cons .here rfl (.cons .here rfl (.cons .here rfl (.cons .here rfl (.cons .here rfl (.cons .here rfl .nil)))))))) rfl ?_
        refine RunA.val (i := 4) rfl (by kernel_rfl) (by kernel_rfl) (Val.load_one rfl (.tail _ (.tail _ (.tail _ (.head _)))) ty_3 rfl) rfl rfl rfl (fun _ _ _ h => h) (.cons .here rfl (.cons .here rfl (.cons .here rfl (.cons .here rfl (.cons .here rfl (.cons .here rfl (.cons .here rfl (.cons .here rfl .nil)))))))) rfl ?_
        refine RunA.val (i := 5) rfl (by kernel_rfl) (by kernel_rfl) (Val.pure rfl) rfl rfl rfl (fun _ _ _ h => h) (.cons .here rfl (.cons .here rfl (.cons .here rfl (.cons .here rfl (.cons .here rfl (.cons .here rfl (.cons .here rfl (.cons .here rfl .nil)))))))) rfl ?_
        refine RunA.val (i := 6) rfl (by kernel_rfl) (by kernel_rfl) (Val.pure rfl) rfl rfl rfl (fun _ _ _ h => h) (.cons .here rfl (.cons .here rfl (.cons .here rfl (.cons .here rfl (.cons .here rfl (.cons .here rfl (.cons .here rfl (.cons .here rfl .nil)))))))) rfl ?_
        refine RunA.val (i := 7) rfl (by kernel_rfl) (by kernel_rfl) (Val.fieldAddr rfl fld_100_0) rfl rfl rfl (fun _ _ _ h => h) (.cons .here rfl (.cons .here rfl (.cons .here rfl (.cons .here rfl (.cons .here rfl (.cons .here rfl (.cons .here rfl (.cons .here rfl .nil)))))))) rfl ?_
        refine RunA.val (i := 8) rfl (by kernel_rfl) (by kernel_rfl) (Val.fieldAddr rfl fld_26_4) rfl rfl rfl (fun _ _ _ h => h) (.cons .here rfl (.cons .here rfl (.cons .here rfl (.cons .here rfl (.cons .here rfl (.cons .here rfl (.cons .here rfl (.cons .here rfl .nil)))))))) rfl ?_
        refine RunA.val (i := 9) rfl (by kernel_rfl) (by kernel_rfl) (Val.load_one rfl (.tail _ (.tail _ (.tail _ (.head _)))) ty_3 rfl) rfl rfl rfl (fun _ _ _ h => h) (.cons .here rfl (.cons .here rfl (.cons .here rfl (.cons .here rfl (.cons .here rfl (.cons .here rfl (.cons .here rfl (.cons .here rfl .nil)))))))) rfl ?_
        refine RunA.val (i := 10) rfl (by kernel_rfl) (by kernel_rfl) (Val.build (parts := [(0, .tmp 73), (1, .tmp 78)]) rfl zero_98 places_98 rfl) rfl rfl rfl (fun _ _ _ h => h) (.cons .here rfl (.cons .here rfl (.cons .here rfl (.cons .here rfl (.cons .here rfl (.cons .here rfl (.cons .here rfl (.cons .here rfl .nil)))))))) rfl ?_
        refine RunA.val (i := 11) rfl (by kernel_rfl) (by kernel_rfl) (Val.pure rfl) rfl rfl rfl (fun _ _ _ h => h) (.cons .here rfl (.cons .here rfl (.cons .here rfl (.cons .here rfl (.cons .here rfl (.cons .here rfl (.cons .here rfl (.cons .here rfl .nil)))))))) rfl ?_
        refine RunA.val (i := 12) rfl (by kernel_rfl) (by kernel_rfl) (Val.pure rfl) rfl rfl rfl (fun _ _ _ h => h) (.cons .here rfl (.cons .here rfl (.cons .here rfl (.cons .here rfl (.cons .here rfl (.cons .here rfl (.cons .here rfl (.cons .here rfl .nil)))))))) rfl ?_
        refine RunA.val (i := 13) rfl (by kernel_rfl) (by kernel_rfl) (Val.fieldAddr rfl fld_100_1) rfl rfl rfl (fun _ _ _ h => h) (.cons .here rfl (.cons .here rfl (.cons .here rfl (.cons .here rfl (.cons .here rfl (.cons .here rfl (.cons .here rfl (.cons .here rfl .nil)))))))) rfl ?_
        refine RunA.val (i := 14) rfl (by kernel_rfl) (by kernel_rfl) (Val.indexAddr_arr rfl rfl arr_98 (by decide) (by decide)) rfl rfl rfl (fun _ _ _ h => h) (.cons .here rfl (.cons .here rfl (.cons .here rfl (.cons .here rfl (.cons .here rfl (.cons .here rfl (.cons .here rfl (.cons .here rfl .nil)))))))) rfl ?_
        refine RunA.val (i := 15) rfl (by kernel_rfl) (by kernel_rfl) (Val.load_one rfl (.tail _ (.tail _ (.tail _ (.head _)))) ty_3 rfl) rfl rfl rfl (fun _ _ _ h => h) (.cons .here rfl (.cons .here rfl (.cons .here rfl (.cons .here rfl (.cons .here rfl (.cons .here rfl (.cons .here rfl (.cons .here rfl .nil)))))))) rfl ?_
        refine RunA.val (i := 16) rfl (by kernel_rfl) (by kernel_rfl) (Val.indexAddr_arr rfl rfl arr_98 (by decide) (by decide)) rfl rfl rfl (fun _ _ _ h => h) (.cons .here rfl (.cons .here rfl (.cons .here rfl (.cons .here rfl (.cons .here rfl (.cons .here rfl (.cons .here rfl (.cons .here rfl .nil)))))))) rfl ?_
        refine RunA.val (i := 17) rfl (by kernel_rfl) (by kernel_rfl) (Val.load_one rfl (.head _) ty_3 rfl) rfl rfl rfl (fun _ _ _ h => h) (.cons .here rfl (.cons .here rfl (.cons .here rfl (.cons .here rfl (.cons .here rfl (.cons .here rfl (.cons .here rfl (.cons .here rfl .nil)))))))) rfl ?_
        refine RunA.val (i := 18) rfl (by kernel_rfl) (by kernel_rfl) (Val.add rfl rfl (IntWalk.i64_in _ ⟨by omega, by omega⟩)) rfl rfl rfl (fun _ _ _ h => h) (.cons .here rfl (.cons .here rfl (.cons .here rfl (.cons .here rfl (.cons .here rfl (.cons .here rfl (.cons .here rfl (.cons .here rfl .nil)))))))) rfl ?_
        refine RunA.val (i := 19) rfl (by kernel_rfl) (by kernel_rfl) (Val.quo rfl rfl (by omega) (by omega) (IntWalk.i64_in _ (div_rng (by omega) (by omega) (by omega)))) rfl rfl rfl (fun _ _ _ h => h) (.cons .here rfl (.cons .here rfl (.cons .here rfl (.cons .here rfl (.cons .here rfl (.cons .here rfl (.cons .here rfl (.cons .here rfl .nil)))))))) rfl ?_
        refine RunA.val (i := 20) rfl (by kernel_rfl) (by kernel_rfl) (Val.add rfl rfl (IntWalk.i64_in _ (div_rng2 (by omega) (by omega) (by omega)))) rfl rfl rfl (fun _ _ _ h => h) (.cons .here rfl (.cons .here rfl (.cons .here rfl (.cons .here rfl (.cons .here rfl (.cons .here rfl (.cons .here rfl (.cons .here rfl .nil)))))))) rfl ?_
        refine RunA.val (i := 21) rfl (by kernel_rfl) (by kernel_rfl) (Val.pure rfl) rfl rfl rfl (fun _ _ _ h => h) (.cons .here rfl (.cons .here rfl (.cons .here rfl (.cons .here rfl (.cons .here rfl (.cons .here rfl (.cons .here rfl (.cons .here rfl .nil)))))))) rfl ?_
        refine RunA.val (i := 22) rfl (by kernel_rfl) (by kernel_rfl) (Val.build (parts := [(0, .tmp 89), (1, .tmp 90)]) rfl zero_98 places_98 rfl) rfl rfl rfl (fun _ _ _ h => h) (.cons .here rfl (.cons .here rfl (.cons .here rfl (.cons .here rfl (.cons .here rfl (.cons .here rfl (.cons .here rfl (.cons .here rfl .nil)))))))) rfl ?_
        refine RunA.all (rs := [23, 28]) (by kernel_rfl) (by simp) (by kernel_rfl) (fun m hm => ?_)
        simp only [List.mem_cons, List.not_mem_nil, or_false] at hm
        rcases hm with rfl | rfl
        · refine RunI.new rfl (New.buildSlice (parts := [(0, .tmp 91)]) rfl sl_139 zero_98 rfl rfl rfl rfl) rfl rfl rfl (fun b92 => (RunK.toA (.cons .here rfl (.cons .here rfl (.cons .here rfl (.cons .here rfl (.cons .here rfl (.cons .here rfl (.cons .here rfl (.cons .here rfl (.cons .here rfl .nil))))))))) (.cons (.there .here) rfl (.cons (.there .here) rfl (.cons (.there .here) rfl (.cons (.there .here) rfl (.cons (.there .here) rfl (.cons (.there .here) rfl (.cons (.there .here) rfl (.cons (.there .here) rfl .nil)))))))) rfl ?_))
          refine RunA.all (rs := [24, 28]) (by kernel_rfl) (by simp) (by kernel_rfl) (fun m hm => ?_)
          simp only [List.mem_cons, List.not_mem_nil, or_false] at hm
          rcases hm with rfl | rfl
          · refine RunI.callP rfl (isCall_func rfl ent_71) rfl rfl rfl (fun w hm => narrowed_calls (_, _) [(_, _)] _ _ _ _ w (Sl.one (hm.at (.head _)) rfl) (by simp)) (RunK.toA (.cons .here rfl (.cons .here rfl (.cons .here rfl (.cons .here rfl (.cons .here rfl (.cons .here rfl (.cons .here rfl (.cons .here rfl (.cons .here rfl .nil))))))))) (.cons .here rfl (.cons .here rfl (.cons .here rfl (.cons .here rfl (.cons .here rfl (.cons .here rfl (.cons .here rfl (.cons .here rfl (.cons .here rfl .nil))))))))) rfl ?_)
            refine RunA.val (i := 25) rfl (by kernel_rfl) (by kernel_rfl) (Val.pure rfl) rfl rfl rfl (fun _ _ _ h => h) (.cons .here rfl (.cons .here rfl (.cons .here rfl (.cons .here rfl (.cons .here rfl (.cons .here rfl (.cons .here rfl (.cons .here rfl (.cons .here rfl .nil))))))))) rfl ?_
            refine RunA.val (i := 26) rfl (by kernel_rfl) (by kernel_rfl) (Val.pure rfl) rfl rfl rfl (fun _ _ _ h => h) (.cons .here rfl (.cons .here rfl (.cons .here rfl (.cons .here rfl (.cons .here rfl (.cons .here rfl (.cons .here rfl (.cons .here rfl (.cons .here rfl .nil))))))))) rfl ?_
            refine RunA.val (i := 27) rfl (by kernel_rfl) (by kernel_rfl) (Val.pure rfl) rfl rfl rfl (fun _ _ _ h => h) (.cons .here rfl (.cons .here rfl (.cons .here rfl (.cons .here rfl (.cons .here rfl (.cons .here rfl (.cons .here rfl (.cons .here rfl (.cons .here rfl .nil))))))))) rfl ?_
            refine RunA.one (i := 28) (by kernel_rfl) (by kernel_rfl) ?_
            refine RunI.new rfl (New.alloc zero_98) rfl rfl rfl (fun b13 => (RunK.toA (.cons (.there .here) rfl (.cons (.there .here) rfl (.cons (.there .here) rfl (.cons (.there .here) rfl (.cons (.there .here) rfl (.cons (.there .here) rfl (.cons (.there .here) rfl (.cons (.there .here) rfl (.cons (.there .here) rfl .nil))))))))) (.cons .here rfl (.cons .here rfl (.cons .here rfl (.cons .here rfl (.cons .here rfl (.cons .here rfl (.cons .here rfl (.cons .here rfl (.cons .here rfl .nil))))))))) rfl ?_))
            refine RunA.one (i := 29) (by kernel_rfl) (by kernel_rfl) ?_
            refine RunI.sto rfl (Sto.store rfl rfl .here ty_98 rfl rfl) rfl rfl (RunK.toA (.cons (.there .here) rfl (.cons (.there .here) rfl (.cons (.there .here) rfl (.cons (.there .here) rfl (.cons (.there .here) rfl (.cons (.there .here) rfl (.cons (.there .here) rfl (.cons (.there .here) rfl (.cons (.there .here) rfl .nil))))))))) (.cons .here rfl (.cons .here rfl (.cons .here rfl (.cons .here rfl (.cons .here rfl (.cons .here rfl (.cons .here rfl (.cons .here rfl (.cons .here rfl .nil))))))))) rfl ?_)
            refine RunA.toB (by kernel_rfl) ?_
            refine RunB.one (i := 30) (by kernel_rfl) ?_
            refine RunI.val rfl (Val.pure rfl) rfl rfl rfl (RunK.toB ?_)
            refine RunB.done (by kernel_rfl) ?_
            refine RunE.noPan ?_
            exact RunE.join2 b92 b13 (Sub.refl _) (Pick.refl _)
          · refine RunI.new rfl (New.alloc zero_98) rfl rfl rfl (fun b13 => (RunK.toA (.cons (.there .here) rfl (.cons (.there .here) rfl (.cons (.there .here) rfl (.cons (.there .here) rfl (.cons (.there .here) rfl (.cons (.there .here) rfl (.cons (.there .here) rfl (.cons (.there .here) rfl (.cons (.there .here) rfl .nil))))))))) (.cons .here rfl (.cons .here rfl (.cons .here rfl (.cons .here rfl (.cons .here rfl (.cons .here rfl (.cons .here rfl (.cons .here rfl (.cons .here rfl .nil))))))))) rfl ?_))
            refine RunA.one (i := 24) (by kernel_rfl) (by kernel_rfl) ?_
            refine RunI.callP rfl (isCall_func rfl ent_71) rfl rfl rfl (fun w hm => narrowed_calls (_, _) [(_, _)] _ _ _ _ w (Sl.one (hm.at (.tail _ (.head _))) rfl) (by simp)) (RunK.toA (.cons (.there .here) rfl (.cons (.there .here) rfl (.cons (.there .here) rfl (.cons (.there .here) rfl (.cons (.there .here) rfl (.cons (.there .here) rfl (.cons (.there .here) rfl (.cons (.there .here) rfl (.cons (.there .here) rfl .nil))))))))) (.cons .here rfl (.cons .here rfl (.cons .here rfl (.cons .here rfl (.cons .here rfl (.cons .here rfl (.cons .here rfl (.cons .here rfl (.cons .here rfl .nil))))))))) rfl ?_)
            refine RunA.val (i := 25) rfl (by kernel_rfl) (by kernel_rfl) (Val.pure rfl) rfl rfl rfl (fun _ _ _ h => h) (.cons (.there .here) rfl (.cons (.there .here) rfl (.cons (.there .here) rfl (.cons (.there .here) rfl (.cons (.there .here) rfl (.cons (.there .here) rfl (.cons (.there .here) rfl (.cons (.there .here) rfl (.cons (.there .here) rfl .nil))))))))) rfl ?_
            refine RunA.val (i := 26) rfl (by kernel_rfl) (by kernel_rfl) (Val.pure rfl) rfl rfl rfl (fun _ _ _ h => h) (.cons (.there .here) rfl (.cons (.there .here) rfl (.cons (.there .here) rfl (.cons (.there .here) rfl (.cons (.there .here) rfl (.cons (.there .here) rfl (.cons (.there .here) rfl (.cons (.there .here) rfl (.cons (.there .here) rfl .nil))))))))) rfl ?_
            refine RunA.val (i := 27) rfl (by kernel_rfl) (by kernel_rfl) (Val.pure rfl) rfl rfl rfl (fun _ _ _ h => h) (.cons (.there .here) rfl (.cons (.there .here) rfl (.cons (.there .here) rfl (.cons (.there .here) rfl (.cons (.there .here) rfl (.cons (.there .here) rfl (.cons (.there .here) rfl (.cons (.there .here) rfl (.cons (.there .here) rfl .nil))))))))) rfl ?_
            refine RunA.one (i := 29) (by kernel_rfl) (by kernel_rfl) ?_
            refine RunI.sto rfl (Sto.store rfl rfl .here ty_98 rfl rfl) rfl rfl (RunK.toA (.cons (.there .here) rfl (.cons (.there .here) rfl (.cons (.there .here) rfl (.cons (.there .here) rfl (.cons (.there .here) rfl (.cons (.there .here) rfl (.cons (.there .here) rfl (.cons (.there .here) rfl (.cons (.there .here) rfl .nil))))))))) (.cons .here rfl (.cons .here rfl (.cons .here rfl (.cons .here rfl (.cons .here rfl (.cons .here rfl (.cons .here rfl (.cons .here rfl (.cons .here rfl .nil))))))))) rfl ?_)
            refine RunA.toB (by kernel_rfl) ?_
            refine RunB.one (i := 30) (by kernel_rfl) ?_
            refine RunI.val rfl (Val.pure rfl) rfl rfl rfl (RunK.toB ?_)
            refine RunB.done (by kernel_rfl) ?_
            refine RunE.noPan ?_
            exact RunE.join2 b92 b13 (Sub.cons (t := 14) rfl (Sub.cons (t := 13) rfl (Sub.cons (t := 95) rfl (Sub.cons (t := 94) rfl (Sub.cons (t := 68) rfl (Sub.cons (t := 93) rfl (Sub.cons (t := 92) rfl (Sub.cons (t := 91) rfl (Sub.cons (t := 90) rfl (Sub.cons (t := 89) rfl (Sub.cons (t := 88) rfl (Sub.cons (t := 87) rfl (Sub.cons (t := 86) rfl (Sub.cons (t := 85) rfl (Sub.cons (t := 84) rfl (Sub.cons (t := 83) rfl (Sub.cons (t := 82) rfl (Sub.cons (t := 81) rfl (Sub.cons (t := 80) rfl (Sub.cons (t := 79) rfl (Sub.cons (t := 78) rfl (Sub.cons (t := 77) rfl (Sub.cons (t := 76) rfl (Sub.cons (t := 75) rfl (Sub.cons (t := 74) rfl (Sub.cons (t := 73) rfl (Sub.cons (t := 72) rfl (Sub.cons (t := 71) rfl (Sub.cons (t := 70) rfl (Sub.cons (t := 69) rfl (Sub.skip rfl (Sub.skip rfl (Sub.skip rfl (Sub.skip rfl (Sub.skip rfl (Sub.skip rfl (Sub.skip rfl (Sub.skip rfl (Sub.skip rfl (Sub.skip rfl (Sub.skip rfl (Sub.skip rfl (Sub.skip rfl (Sub.skip rfl (Sub.skip rfl (Sub.skip rfl (Sub.skip rfl (Sub.skip rfl (Sub.skip rfl (Sub.skip rfl (Sub.skip rfl (Sub.skip rfl (Sub.skip rfl (Sub.skip rfl (Sub.skip rfl (Sub.skip rfl (Sub.skip rfl (Sub.skip rfl (Sub.skip rfl (Sub.skip rfl (Sub.refl _))))))))))))))))))))))))))))))))))))))))))))))))))))))))))))) (.cons .here rfl (.cons .here rfl (.cons .here rfl (.cons .here rfl (.cons .here rfl (.cons .here rfl (.cons .here rfl (.cons .here rfl (.cons .here rfl (.cons .here rfl .nil))))))))))
        · refine RunI.new rfl (New.alloc zero_98) rfl rfl rfl (fun b13 => (RunK.toA (.cons (.there .here) rfl (.cons (.there .here) rfl (.cons (.there .here) rfl (.cons (.there .here) rfl (.cons (.there .here) rfl (.cons (.there .here) rfl (.cons (.there .here) rfl (.cons (.there .here) rfl .nil)))))))) (.cons .here rfl (.cons .here rfl (.cons .here rfl (.cons .here rfl (.cons .here rfl (.cons .here rfl (.cons .here rfl (.cons .here rfl .nil)))))))) rfl ?_))
          refine RunA.one (i := 23) (by kernel_rfl) (by kernel_rfl) ?_
          refine RunI.new rfl (New.buildSlice (parts := [(0, .tmp 91)]) rfl sl_139 zero_98 rfl rfl rfl rfl) rfl rfl rfl (fun b92 => (RunK.toA (.cons .here rfl (.cons (.there .here) rfl (.cons (.there .here) rfl (.cons (.there .here) rfl (.cons (.there .here) rfl (.cons (.there .here) rfl (.cons (.there .here) rfl (.cons (.there .here) rfl (.cons (.there .here) rfl .nil))))))))) (.cons (.there .here) rfl (.cons (.there .here) rfl (.cons (.there .here) rfl (.cons (.there .here) rfl (.cons (.there .here) rfl (.cons (.there .here) rfl (.cons (.there .here) rfl (.cons (.there .here) rfl .nil)))))))) rfl ?_))
          refine RunA.one (i := 24) (by kernel_rfl) (by kernel_rfl) ?_
          refine RunI.callP rfl (isCall_func rfl ent_71) rfl rfl rfl (fun w hm => narrowed_calls (_, _) [(_, _)] _ _ _ _ w (Sl.one (hm.at (.head _)) rfl) (by simp)) (RunK.toA (.cons .here rfl (.cons (.there .here) rfl (.cons (.there .here) rfl (.cons (.there .here) rfl (.cons (.there .here) rfl (.cons (.there .here) rfl (.cons (.there .here) rfl (.cons (.there .here) rfl (.cons (.there .here) rfl .nil))))))))) (.cons .here rfl (.cons .here rfl (.cons .here rfl (.cons .here rfl (.cons .here rfl (.cons .here rfl (.cons .here rfl (.cons .here rfl (.cons .here rfl .nil))))))))) rfl ?_)
          refine RunA.val (i := 25) rfl (by kernel_rfl) (by kernel_rfl) (Val.pure rfl) rfl rfl rfl (fun _ _ _ h => h) (.cons .here rfl (.cons (.there .here) rfl (.cons (.there .here) rfl (.cons (.there .here) rfl (.cons (.there .here) rfl (.cons (.there .here) rfl (.cons (.there .here) rfl (.cons (.there .here) rfl (.cons (.there .here) rfl .nil))))))))) rfl ?_
          refine RunA.val (i := 26) rfl (by kernel_rfl) (by kernel_rfl) (Val.pure rfl) rfl rfl rfl (fun _ _ _ h => h) (.cons .here rfl (.cons (.there .here) rfl (.cons (.there .here) rfl (.cons (.there .here) rfl (.cons (.there .here) rfl (.cons (.there .here) rfl (.cons (.there .here) rfl (.cons (.there .here) rfl (.cons (.there .here) rfl .nil))))))))) rfl ?_
          refine RunA.val (i := 27) rfl (by kernel_rfl) (by kernel_rfl) (Val.pure rfl) rfl rfl rfl (fun _ _ _ h => h) (.cons .here rfl (.cons (.there .here) rfl (.cons (.there .here) rfl (.cons (.there .here) rfl (.cons (.there .here) rfl (.cons (.there .here) rfl (.cons (.there .here) rfl (.cons (.there .here) rfl (.cons (.there .here) rfl .nil))))))))) rfl ?_
          refine RunA.one (i := 29) (by kernel_rfl) (by kernel_rfl) ?_
          refine RunI.sto rfl (Sto.store rfl rfl (.there .here) ty_98 rfl rfl) rfl rfl (RunK.toA (.cons .here rfl (.cons (.there .here) rfl (.cons (.there .here) rfl (.cons (.there .here) rfl (.cons (.there .here) rfl (.cons (.there .here) rfl (.cons (.there .here) rfl (.cons (.there .here) rfl (.cons (.there .here) rfl .nil))))))))) (.cons .here rfl (.cons .here rfl (.cons .here rfl (.cons .here rfl (.cons .here rfl (.cons .here rfl (.cons .here rfl (.cons .here rfl (.cons .here rfl .nil))))))))) rfl ?_)
          refine RunA.toB (by kernel_rfl) ?_
          refine RunB.one (i := 30) (by kernel_rfl) ?_
          refine RunI.val rfl (Val.pure rfl) rfl rfl rfl (RunK.toB ?_)
          refine RunB.done (by kernel_rfl) ?_
          refine RunE.noPan ?_
          exact RunE.join2 b92 b13 (Sub.cons (t := 14) rfl (Sub.cons (t := 13) rfl (Sub.cons (t := 95) rfl (Sub.cons (t := 94) rfl (Sub.cons (t := 68) rfl (Sub.cons (t := 93) rfl (Sub.cons (t := 92) rfl (Sub.cons (t := 91) rfl (Sub.cons (t := 90) rfl (Sub.cons (t := 89) rfl (Sub.cons (t := 88) rfl (Sub.cons (t := 87) rfl (Sub.cons (t := 86) rfl (Sub.cons (t := 85) rfl (Sub.cons (t := 84) rfl (Sub.cons (t := 83) rfl (Sub.cons (t := 82) rfl (Sub.cons (t := 81) rfl (Sub.cons (t := 80) rfl (Sub.cons (t := 79) rfl (Sub.cons (t := 78) rfl (Sub.cons (t := 77) rfl (Sub.cons (t := 76) rfl (Sub.cons (t := 75) rfl (Sub.cons (t := 74) rfl (Sub.cons (t := 73) rfl (Sub.cons (t := 72) rfl (Sub.cons (t := 71) rfl (Sub.cons (t := 70) rfl (Sub.cons (t := 69) rfl (Sub.skip rfl (Sub.skip rfl (Sub.skip rfl (Sub.skip rfl (Sub.skip rfl (Sub.skip rfl (Sub.skip rfl (Sub.skip rfl (Sub.skip rfl (Sub.skip rfl (Sub.skip rfl (Sub.skip rfl (Sub.skip rfl (Sub.skip rfl (Sub.skip rfl (Sub.skip rfl (Sub.skip rfl (Sub.skip rfl (Sub.skip rfl (Sub.skip rfl (Sub.skip rfl (Sub.skip rfl (Sub.skip rfl (Sub.skip rfl (Sub.skip rfl (Sub.skip rfl (Sub.skip rfl (Sub.skip rfl (Sub.skip rfl (Sub.skip rfl (Sub.refl _))))))))))))))))))))))))))))))))))))))))))))))))))))))))))))) (.cons (.there .here) rfl (.cons .here rfl (.cons .here rfl (.cons .here rfl (.cons .here rfl (.cons .here rfl (.cons .here rfl (.cons .here rfl (.cons .here rfl (.cons .here rfl .nil))))))))))
      refine J2.out (fun b92 b13 => ?_)
      refine RunE.next ?_
      refine RunC.seq ?_
      refine RunC.region ?_
      refine RunL.val (Val.load_agg rfl (.head _) ty_98 rfl) rfl rfl rfl ?_
      refine RunL.callP (isCall_func rfl ent_72) rfl rfl rfl (fun w hm => spanOf_calls (_, _) w) ?_
      refine RunL.sto (Sto.store rfl rfl (.there (.there (.there (.there (.there (.there (.there (.there .here)))))))) ty_23 rfl rfl) rfl rfl ?_
      refine RunL.sto (Sto.store rfl rfl (.there (.there (.there (.there (.there (.there (.there .here))))))) ty_31 rfl rfl) rfl rfl ?_
      refine RunL.nil ?_
      refine RunE.next ?_
      refine RunC.ret ?_
      exact RunE.retD catches ent_66 (.r2 rfl (.agg rfl (.tail _ (.tail _ (.tail _ (.tail _ (.tail _ (.tail _ (.tail _ (.tail _ (.head _))))))))) ty_23 rfl) (.one rfl (.tail _ (.tail _ (.tail _ (.tail _ (.tail _ (.tail _ (.tail _ (.head _)))))))) ty_31 rfl)) (by simp [distX, ha18, thingAt_eq hk ht, ok38, c0', b2v, c1']; exact ⟨rfl, rfl⟩)
    · intro c1
      have c1' := c1; clear c1
      try simp only [decide_eq_true_eq, decide_eq_false_iff_not, Bool.not_eq_true', Bool.not_eq_false', Bool.and_eq_true, Bool.or_eq_true, Bool.and_eq_false_iff, Bool.or_eq_false_iff, Int.not_le, Int.not_lt] at c1'
      refine RunC.skip ?_
      refine RunE.next ?_
      refine RunC.seq ?_
      apply RunC.drawNJ (J := J2 _ _ _ _ _ _) 30 fol_ (.cons .here rfl (.cons .here rfl (.cons .here rfl (.cons .here rfl (.cons .here rfl (.cons .here rfl (.cons .here rfl (.cons .here rfl .nil))))))))
      · refine RunA.val (i := 0) rfl (by kernel_rfl) (by kernel_rfl) (Val.pure rfl) rfl rfl rfl (fun _ _ _ h => h) (.cons .here rfl (.cons .here rfl (.cons .here rfl (.cons .here rfl (.cons .here rfl (.cons .here rfl (.cons .here rfl (.cons .here rfl .nil)))))))) rfl ?_
        refine RunA.val (i := 1) rfl (by kernel_rfl) (by kernel_rfl) (Val.pure rfl) rfl rfl rfl (fun _ _ _ h => h) (.cons .here rfl (.cons .here rfl (.cons .here rfl (.cons .here rfl (.cons .here rfl (.cons .here rfl (.cons .here rfl (.cons .here rfl .nil)))))))) rfl ?_
        refine RunA.val (i := 2) rfl (by kernel_rfl) (by kernel_rfl) (Val.fieldAddr rfl fld_100_0) rfl rfl rfl (fun _ _ _ h => h) (.cons .here rfl (.cons .here rfl (.cons .here rfl (.cons .here rfl (.cons .here rfl (.cons .here rfl (.cons .here rfl (.cons .here rfl .nil)))))))) rfl ?_
        refine RunA.val (i := 3) rfl (by kernel_rfl) (by kernel_rfl) (Val.fieldAddr rfl fld_26_3) rfl rfl rfl (fun _ _ _ h => h) (.cons .here rfl (.cons .here rfl (.cons .here rfl (.cons .here rfl (.cons .here rfl (.cons .here rfl (.cons .here rfl (.cons .here rfl .nil)))))))) rfl ?_
        refine RunA.val (i := 4) rfl (by kernel_rfl) (by kernel_rfl) (Val.load_one rfl (.tail _ (.tail _ (.tail _ (.head _)))) ty_3 rfl) rfl rfl rfl (fun _ _ _ h => h) (.cons .here rfl (.cons .here rfl (.cons .here rfl (.cons .here rfl (.cons .here rfl (.cons .here rfl (.cons .here rfl (.cons .here rfl .nil)))))))) rfl ?_
        refine RunA.val (i := 5) rfl (by kernel_rfl) (by kernel_rfl) (Val.pure rfl) rfl rfl rfl (fun _ _ _ h => h) (.cons .here rfl (.cons .here rfl (.cons .here rfl (.cons .here rfl (.cons .here rfl (.cons .here rfl (.cons .here rfl (.cons .here rfl .nil)))))))) rfl ?_
        refine RunA.val (i := 6) rfl (by kernel_rfl) (by kernel_rfl) (Val.pure rfl) rfl rfl rfl (fun _ _ _ h => h) (.cons .here rfl (.cons .here rfl (.cons .here rfl (.cons .here rfl (.cons .here rfl (.cons .here rfl (.cons .here rfl (.cons .here rfl .nil)))))))) rfl ?_
        refine RunA.val (i := 7) rfl (by kernel_rfl) (by kernel_rfl) (Val.fieldAddr rfl fld_100_0) rfl rfl rfl (fun _ _ _ h => h) (.cons .here rfl (.cons .here rfl (.cons .here rfl (.cons .here rfl (.cons .here rfl (.cons .here rfl (.cons .here rfl (.cons .here rfl .nil)))))))) rfl ?_
        refine RunA.val (i := 8) rfl (by kernel_rfl) (by kernel_rfl) (Val.fieldAddr rfl fld_26_4) rfl rfl rfl (fun _ _ _ h => h) (.cons .here rfl (.cons .here rfl (.cons .here rfl (.cons .here rfl (.cons .here rfl (.cons .here rfl (.cons .here rfl (.cons .here rfl .nil)))))))) rfl ?_
        refine RunA.val (i := 9) rfl (by kernel_rfl) (by kernel_rfl) (Val.load_one rfl (.tail _ (.tail _ (.tail _ (.head _)))) ty_3 rfl) rfl rfl rfl (fun _ _ _ h => h) (.cons .here rfl (.cons .here rfl (.cons .here rfl (.cons .here rfl (.cons .here rfl (.cons .here rfl (.cons .here rfl (.cons .here rfl .nil)))))))) rfl ?_
        refine RunA.val (i := 10) rfl (by kernel_rfl) (by kernel_rfl) (Val.build (parts := [(0, .tmp 73), (1, .tmp 78)]) rfl zero_98 places_98 rfl) rfl rfl rfl (fun _ _ _ h => h) (.cons .here rfl (.cons .here rfl (.cons .here rfl (.cons .here rfl (.cons .here rfl (.cons .here rfl (.cons .here rfl (.cons .here rfl .nil)))))))) rfl ?_
        refine RunA.val (i := 11) rfl (by kernel_rfl) (by kernel_rfl) (Val.pure rfl) rfl rfl rfl (fun _ _ _ h => h) (.cons .here rfl (.cons .here rfl (.cons .here rfl (.cons .here rfl (.cons .here rfl (.cons .here rfl (.cons .here rfl (.cons .here rfl .nil)))))))) rfl ?_
        refine RunA.val (i := 12) rfl (by kernel_rfl) (by kernel_rfl) (Val.pure rfl) rfl rfl rfl (fun _ _ _ h => h) (.cons .here rfl (.cons .here rfl (.cons .here rfl (.cons .here rfl (.cons .here rfl (.cons .here rfl (.cons .here rfl (.cons .here rfl .nil)))))))) rfl ?_
        refine RunA.val (i := 13) rfl (by kernel_rfl) (by kernel_rfl) (Val.fieldAddr rfl fld_100_1) rfl rfl rfl (fun _ _ _ h => h) (.cons .here rfl (.cons .here rfl (.cons .here rfl (.cons .here rfl (.cons .here rfl (.cons .here rfl (.cons .here rfl (.cons .here rfl .nil)))))))) rfl ?_
        refine RunA.val (i := 14) rfl (by kernel_rfl) (by kernel_rfl) (Val.indexAddr_arr rfl rfl arr_98 (by decide) (by decide)) rfl rfl rfl (fun _ _ _ h => h) (.cons .here rfl (.cons .here rfl (.cons .here rfl (.cons .here rfl (.cons .here rfl (.cons .here rfl (.cons .here rfl (.cons .here rfl .nil)))))))) rfl ?_
        refine RunA.val (i := 15) rfl (by kernel_rfl) (by kernel_rfl) (Val.load_one rfl (.tail _ (.tail _ (.tail _ (.head _)))) ty_3 rfl) rfl rfl rfl (fun _ _ _ h => h) (.cons .here rfl (.cons .here rfl (.cons .here rfl (.cons .here rfl (.cons .here rfl (.cons .here rfl (.cons .here rfl (.cons .here rfl .nil)))))))) rfl ?_
        refine RunA.val (i := 16) rfl (by kernel_rfl) (by kernel_rfl) (Val.indexAddr_arr rfl rfl arr_98 (by decide) (by decide)) rfl rfl rfl (fun _ _ _ h => h) (.cons .here rfl (.cons .here rfl (.cons .here rfl (.cons .here rfl (.cons .here rfl (.cons .here rfl (.cons .here rfl (.cons .here rfl .nil)))))))) rfl ?_
        refine RunA.val (i := 17) rfl (by kernel_rfl) (by kernel_rfl) (Val.load_one rfl (.head _) ty_3 rfl) rfl rfl rfl (fun _ _ _ h => h) (.cons .here rfl (.cons .here rfl (.cons .here rfl (.cons .here rfl (.cons .here rfl (.cons .here rfl (.cons .here rfl (.cons .here rfl .nil)))))))) rfl ?_
        refine RunA.val (i := 18) rfl (by kernel_rfl) (by kernel_rfl) (Val.add rfl rfl (IntWalk.i64_in _ ⟨by omega, by omega⟩)) rfl rfl rfl (fun _ _ _ h => h) (.cons .here rfl (.cons .here rfl (.cons .here rfl (.cons .here rfl (.cons .here rfl (.cons .here rfl (.cons .here rfl (.cons .here rfl .nil)))))))) rfl ?_
        refine RunA.val (i := 19) rfl (by kernel_rfl) (by kernel_rfl) (Val.quo rfl rfl (by omega) (by omega) (IntWalk.i64_in _ (div_rng (by omega) (by omega) (by omega)))) rfl rfl rfl (fun _ _ _ h => h) (.cons .here rfl (.cons .here rfl (.cons .here rfl (.cons .here rfl (.cons .here rfl (.cons .here rfl (.cons .here rfl (.cons .here rfl .nil)))))))) rfl ?_
        refine RunA.val (i := 20) rfl (by kernel_rfl) (by kernel_rfl) (Val.add rfl rfl (IntWalk.i64_in _ (div_rng2 (by omega) (by omega) (by omega)))) rfl rfl rfl (fun _ _ _ h => h) (.cons .here rfl (.cons .here rfl (.cons .here rfl (.cons .here rfl (.cons .here rfl (.cons .here rfl (.cons .here rfl (.cons .here rfl .nil)))))))) rfl ?_
        refine RunA.val (i := 21) rfl (by kernel_rfl) (by kernel_rfl) (Val.pure rfl) rfl rfl rfl (fun _ _ _ h => h) (.cons .here rfl (.cons .here rfl (.cons .here rfl (.cons .here rfl (.cons .here rfl (.cons .here rfl (.cons .here rfl (.cons .here rfl .nil)))))))) rfl ?_
        refine RunA.val (i := 22) rfl (by kernel_rfl) (by kernel_rfl) (Val.build (parts := [(0, .tmp 89), (1, .tmp 90)]) rfl zero_98 places_98 rfl) rfl rfl rfl (fun _ _ _ h => h) (.cons .here rfl (.cons .here rfl (.cons .here rfl (.cons .here rfl (.cons .here rfl (.cons .here rfl (.cons .here rfl (.cons .here rfl .nil)))))))) rfl ?_
        refine RunA.all (rs := [23, 28]) (by kernel_rfl) (by simp) (by kernel_rfl) (fun m hm => ?_)
        simp only [List.mem_cons, List.not_mem_nil, or_false] at hm
        rcases hm with rfl | rfl
        · refine RunI.new rfl (New.buildSlice (parts := [(0, .tmp 91)]) rfl sl_139 zero_98 rfl rfl rfl rfl) rfl rfl rfl (fun b92 => (RunK.toA (.cons .here rfl (.cons .here rfl (.cons .here rfl (.cons .here rfl (.cons .here rfl (.cons .here rfl (.cons .here rfl (.cons .here rfl (.cons .here rfl .nil))))))))) (.cons (.there .here) rfl (.cons (.there .here) rfl (.cons (.there .here) rfl (.cons (.there .here) rfl (.cons (.there .here) rfl (.cons (.there .here) rfl (.cons (.there .here) rfl (.cons (.there .here) rfl .nil)))))))) rfl ?_))
          refine RunA.all (rs := [24, 28]) (by kernel_rfl) (by simp) (by kernel_rfl) (fun m hm => ?_)
          simp only [List.mem_cons, List.not_mem_nil, or_false] at hm
          rcases hm with rfl | rfl
          · refine RunI.callP rfl (isCall_func rfl ent_71) rfl rfl rfl (fun w hm => narrowed_calls (_, _) [(_, _)] _ _ _ _ w (Sl.one (hm.at (.head _)) rfl) (by simp)) (RunK.toA (.cons .here rfl (.cons .here rfl (.cons .here rfl (.cons .here rfl (.cons .here rfl (.cons .here rfl (.cons .here rfl (.cons .here rfl (.cons .here rfl .nil))))))))) (.cons .here rfl (.cons .here rfl (.cons .here rfl (.cons .here rfl (.cons .here rfl (.cons .here rfl (.cons .here rfl (.cons .here rfl (.cons .here rfl .nil))))))))) rfl ?_)
            refine RunA.val (i := 25) rfl (by kernel_rfl) (by kernel_rfl) (Val.pure rfl) rfl rfl rfl (fun _ _ _ h => h) (.cons .here rfl (.cons .here rfl (.cons .here rfl (.cons .here rfl (.cons .here rfl (.cons .here rfl (.cons .here rfl (.cons .here rfl (.cons .here rfl .nil))))))))) rfl ?_
            refine RunA.val (i := 26) rfl (by kernel_rfl) (by kernel_rfl) (Val.pure rfl) rfl rfl rfl (fun _ _ _ h => h) (.cons .here rfl (.cons .here rfl (.cons .here rfl (.cons .here rfl (.cons .here rfl (.cons .here rfl (.cons .here rfl (.cons .here rfl (.cons .here rfl .nil))))))))) rfl ?_
            refine RunA.val (i := 27) rfl (by kernel_rfl) (by kernel_rfl) (Val.pure rfl) rfl rfl rfl (fun _ _ _ h => h) (.cons .here rfl (.cons .here rfl (.cons .here rfl (.cons .here rfl (.cons .here rfl (.cons .here rfl (.cons .here rfl (.cons .here rfl (.cons .here rfl .nil))))))))) rfl ?_
            refine RunA.one (i := 28) (by kernel_rfl) (by kernel_rfl) ?_
            refine RunI.new rfl (New.alloc zero_98) rfl rfl rfl (fun b13 => (RunK.toA (.cons (.there .here) rfl (.cons (.there .here) rfl (.cons (.there .here) rfl (.cons (.there .here) rfl (.cons (.there .here) rfl (.cons (.there .here) rfl (.cons (.there .here) rfl (.cons (.there .here) rfl (.cons (.there .here) rfl .nil))))))))) (.cons .here rfl (.cons .here rfl (.cons .here rfl (.cons .here rfl (.cons .here rfl (.cons .here rfl (.cons .here rfl (.cons .here rfl (.cons .here rfl .nil))))))))) rfl ?_))
            refine RunA.one (i := 29) (by kernel_rfl) (by kernel_rfl) ?_
            refine RunI.sto rfl (Sto.store rfl rfl .here ty_98 rfl rfl) rfl rfl (RunK.toA (.cons (.there .here) rfl (.cons (.there .here) rfl (.cons (.there .here) rfl (.cons (.there .here) rfl (.cons (.there .here) rfl (.cons (.there .here) rfl (.cons (.there .here) rfl (.cons (.there .here) rfl (.cons (.there .here) rfl .nil))))))))) (.cons .here rfl (.cons .here rfl (.cons .here rfl (.cons .here rfl (.cons .here rfl (.cons .here rfl (.cons .here rfl (.cons .here rfl (.cons .here rfl .nil))))))))) rfl ?_)
            refine RunA.toB (by kernel_rfl) ?_
            refine RunB.one (i := 30) (by kernel_rfl) ?_
            refine RunI.val rfl (Val.pure rfl) rfl rfl rfl (RunK.toB ?_)
            refine RunB.done (by kernel_rfl) ?_
            refine RunE.noPan ?_
            exact RunE.join2 b92 b13 (Sub.refl _) (Pick.refl _)
          · refine RunI.new rfl (New.alloc zero_98) rfl rfl rfl (fun b13 => (RunK.toA (.cons (.there .here) rfl (.cons (.there .here) rfl (.cons (.there .here) rfl (.cons (.there .here) rfl (.cons (.there .here) rfl (.cons (.there .here) rfl (.cons (.there .here) rfl (.cons (.there .here) rfl (.cons (.there .here) rfl .nil))))))))) (.cons .here rfl (.cons .here rfl (.cons .here rfl (.cons .here rfl (.cons .here rfl (.cons .here rfl (.cons .here rfl (.cons .here rfl (.cons .here rfl .nil))))))))) rfl ?_))
            refine RunA.one (i := 24) (by kernel_rfl) (by kernel_rfl) ?_
            refine RunI.callP rfl (isCall_func rfl ent_71) rfl rfl rfl (fun w hm => narrowed_calls (_, _) [(_, _)] _ _ _ _ w (Sl.one (hm.at (.tail _ (.head _))) rfl) (by simp)) (RunK.toA (.cons (.there .here) rfl (.cons (.there .here) rfl (.cons (.there .here) rfl (.cons (.there .here) rfl (.cons (.there .here) rfl (.cons (.there .here) rfl (.cons (.there .here) rfl (.cons (.there .here) rfl (.cons (.there .here) rfl .nil))))))))) (.cons .here rfl (.cons .here rfl (.cons .here rfl (.cons .here rfl (.cons .here rfl (.cons .here rfl (.cons .here rfl (.cons .here rfl (.cons .here rfl .nil))))))))) rfl ?_)
            refine RunA.val (i := 25) rfl (by kernel_rfl) (by kernel_rfl) (Val.pure rfl) rfl rfl rfl (fun _ _ _ h => h) (.cons (.there .here) rfl (.cons (.there .here) rfl (.cons (.there .here) rfl (.cons (.there .here) rfl (.cons (.there .here) rfl (.cons (.there .here) rfl (.cons (.there .here) rfl (.cons (.there .here) rfl (.cons (.there .here) rfl .nil))))))))) rfl ?_
            refine RunA.val (i := 26) rfl (by kernel_rfl) (by kernel_rfl) (Val.pure rfl) rfl rfl rfl (fun _ _ _ h => h) (.cons (.there .here) rfl (.cons (.there .here) rfl (.cons (.there .here) rfl (.cons (.there .here) rfl (.cons (.there .here) rfl (.cons (.there .here) rfl (.cons (.there .here) rfl (.cons (.there .here) rfl (.cons (.there .here) rfl .nil))))))))) rfl ?_
            refine RunA.val (i := 27) rfl (by kernel_rfl) (by kernel_rfl) (Val.pure rfl) rfl rfl rfl (fun _ _ _ h => h) (.cons (.there .here) rfl (.cons (.there .here) rfl (.cons (.there .here) rfl (.cons (.there .here) rfl (.cons (.there .here) rfl (.cons (.there .here) rfl (.cons (.there .here) rfl (.cons (.there .here) rfl (.cons (.there .here) rfl .nil))))))))) rfl ?_
            refine RunA.one (i := 29) (by kernel_rfl) (by kernel_rfl) ?_
            refine RunI.sto rfl (Sto.store rfl rfl .here ty_98 rfl rfl) rfl rfl (RunK.toA (.cons (.there .here) rfl (.cons (.there .here) rfl (.cons (.there .here) rfl (.cons (.there .here) rfl (.cons (.there .here) rfl (.cons (.there .here) rfl (.cons (.there .here) rfl (.cons (.there .here) rfl (.cons (.there .here) rfl .nil))))))))) (.cons .here rfl (.cons .here rfl (.cons .here rfl (.cons .here rfl (.cons .here rfl (.cons .here rfl (.cons .here rfl (.cons .here rfl (.cons .here rfl .nil))))))))) rfl ?_)
            refine RunA.toB (by kernel_rfl) ?_
            refine RunB.one (i := 30) (by kernel_rfl) ?_
            refine RunI.val rfl (Val.pure rfl) rfl rfl rfl (RunK.toB ?_)
            refine RunB.done (by kernel_rfl) ?_
            refine RunE.noPan ?_
            exact RunE.join2 b92 b13 (Sub.cons (t := 14) rfl (Sub.cons (t := 13) rfl (Sub.cons (t := 95) rfl (Sub.cons (t := 94) rfl (Sub.cons (t := 68) rfl (Sub.cons (t := 93) rfl (Sub.cons (t := 92) rfl (Sub.cons (t := 91) rfl (Sub.cons (t := 90) rfl (Sub.cons (t := 89) rfl (Sub.cons (t := 88) rfl (Sub.cons (t := 87) rfl (Sub.cons (t := 86) rfl (Sub.cons (t := 85) rfl (Sub.cons (t := 84) rfl (Sub.cons (t := 83) rfl (Sub.cons (t := 82) rfl (Sub.cons (t := 81) rfl (Sub.cons (t := 80) rfl (Sub.cons (t := 79) rfl (Sub.cons (t := 78) rfl (Sub.cons (t := 77) rfl (Sub.cons (t := 76) rfl (Sub.cons (t := 75) rfl (Sub.cons (t := 74) rfl (Sub.cons (t := 73) rfl (Sub.cons (t := 72) rfl (Sub.cons (t := 71) rfl (Sub.cons (t := 70) rfl (Sub.cons (t := 69) rfl (Sub.skip rfl (Sub.skip rfl (Sub.skip rfl (Sub.skip rfl (Sub.skip rfl (Sub.skip rfl (Sub.skip rfl (Sub.skip rfl (Sub.skip rfl (Sub.skip rfl (Sub.skip rfl (Sub.skip rfl (Sub.skip rfl (Sub.skip rfl (Sub.skip rfl (Sub.skip rfl (Sub.skip rfl (Sub.skip rfl (Sub.skip rfl (Sub.skip rfl (Sub.skip rfl (Sub.skip rfl (Sub.skip rfl (Sub.skip rfl (Sub.skip rfl (Sub.skip rfl (Sub.skip rfl (Sub.skip rfl (Sub.skip rfl (Sub.skip rfl (Sub.refl _))))))))))))))))))))))))))))))))))))))))))))))))))))))))))))) (.cons .here rfl (.cons .here rfl (.cons .here rfl (.cons .here rfl (.cons .here rfl (.cons .here rfl (.cons .here rfl (.cons .here rfl (.cons .here rfl (.cons .here rfl .nil))))))))))
        · refine RunI.new rfl (New.alloc zero_98) rfl rfl rfl (fun b13 => (RunK.toA (.cons (.there .here) rfl (.cons (.there .here) rfl (.cons (.there .here) rfl (.cons (.there .here) rfl (.cons (.there .here) rfl (.cons (.there .here) rfl (.cons (.there .here) rfl (.cons (.there .here) rfl .nil)))))))) (.cons .here rfl (.cons .here rfl (.cons .here rfl (.cons .here rfl (.cons .here rfl (.cons .here rfl (.cons .here rfl (.cons .here rfl .nil)))))))) rfl ?_))
          refine RunA.one (i := 23) (by kernel_rfl) (by kernel_rfl) ?_
          refine RunI.new rfl (New.buildSlice (parts := [(0, .tmp 91)]) rfl sl_139 zero_98 rfl rfl rfl rfl) rfl rfl rfl (fun b92 => (RunK.toA (.cons .here rfl (.cons (.there .here) rfl (.cons (.there .here) rfl (.cons (.there .here) rfl (.cons (.there .here) rfl (.cons (.there .here) rfl (.cons (.there .here) rfl (.cons (.there .here) rfl (.cons (.there .here) rfl .nil))))))))) (.cons (.there .here) rfl (.cons (.there .here) rfl (.cons (.there .here) rfl (.cons (.there .here) rfl (.cons (.there .here) rfl (.cons (.there .here) rfl (.cons (.there .here) rfl (.cons (.there .here) rfl .nil)))))))) rfl ?_))
          refine RunA.one (i := 24) (by kernel_rfl) (by kernel_rfl) ?_
          refine RunI.callP rfl (isCall_func rfl ent_71) rfl rfl rfl (fun w hm => narrowed_calls (_, _) [(_, _)] _ _ _ _ w (Sl.one (hm.at (.head _)) rfl) (by simp)) (RunK.toA (.cons .here rfl (.cons (.there .here) rfl (.cons (.there .here) rfl (.cons (.there .here) rfl (.cons (.there .here) rfl (.cons (.there .here) rfl (.cons (.there .here) rfl (.cons (.there .here) rfl (.cons (.there .here) rfl .nil))))))))) (.cons .here rfl (.cons .here rfl (.cons .here rfl (.cons .here rfl (.cons .here rfl (.cons .here rfl (.cons .here rfl (.cons .here rfl (.cons .here rfl .nil))))))))) rfl ?_)
          refine RunA.val (i := 25) rfl (by kernel_rfl) (by kernel_rfl) (Val.pure rfl) rfl rfl rfl (fun _ _ _ h => h) (.cons .here rfl (.cons (.there .here) rfl (.cons (.there .here) rfl (.cons (.there .here) rfl (.cons (.there .here) rfl (.cons (.there .here) rfl (.cons (.there .here) rfl (.cons (.there .here) rfl (.cons (.there .here) rfl .nil))))))))) rfl ?_
          refine RunA.val (i := 26) rfl (by kernel_rfl) (by kernel_rfl) (Val.pure rfl) rfl rfl rfl (fun _ _ _ h => h) (.cons .here rfl (.cons (.there .here) rfl (.cons (.there .here) rfl (.cons (.there .here) rfl (.cons (.there .here) rfl (.cons (.there .here) rfl (.cons (.there .here) rfl (.cons (.there .here) rfl (.cons (.there .here) rfl .nil))))))))) rfl ?_
          refine RunA.val (i := 27) rfl (by kernel_rfl) (by kernel_rfl) (Val.pure rfl) rfl rfl rfl (fun _ _ _ h => h) (.cons .here rfl (.cons (.there .here) rfl (.cons (.there .here) rfl (.cons (.there .here) rfl (.cons (.there .here) rfl (.cons (.there .here) rfl (.cons (.there .here) rfl (.cons (.there .here) rfl (.cons (.there .here) rfl .nil))))))))) rfl ?_
          refine RunA.one (i := 29) (by kernel_rfl) (by kernel_rfl) ?_
          refine RunI.sto rfl (Sto.store rfl rfl (.there .here) ty_98 rfl rfl) rfl rfl (RunK.toA (.cons .here rfl (.cons (.there .here) rfl (.cons (.there .here) rfl (.cons (.there .here) rfl (.cons (.there .here) rfl (.cons (.there .here) rfl (.cons (.there .here) rfl (.cons (.there .here) rfl (.cons (.there .here) rfl .nil))))))))) (.cons .here rfl (.cons .here rfl (.cons .here rfl (.cons .here rfl (.cons .here rfl (.cons .here rfl (.cons .here rfl (.cons .here rfl (.cons .here rfl .nil))))))))) rfl ?_)
          refine RunA.toB (by kernel_rfl) ?_
          refine RunB.one (i := 30) (by kernel_rfl) ?_
          refine RunI.val rfl (Val.pure rfl) rfl rfl rfl (RunK.toB ?_)
          refine RunB.done (by kernel_rfl) ?_
          refine RunE.noPan ?_
          exact RunE.join2 b92 b13 (Sub.cons (t := 14) rfl (Sub.cons (t := 13) rfl (Sub.cons (t := 95) rfl (Sub.cons (t := 94) rfl (Sub.cons (t := 68) rfl (Sub.cons (t := 93) rfl (Sub.cons (t := 92) rfl (Sub.cons (t := 91) rfl (Sub.cons (t := 90) rfl (Sub.cons (t := 89) rfl (Sub.cons (t := 88) rfl (Sub.cons (t := 87) rfl (Sub.cons (t := 86) rfl (Sub.cons (t := 85) rfl (Sub.cons (t := 84) rfl (Sub.cons (t := 83) rfl (Sub.cons (t := 82) rfl (Sub.cons (t := 81) rfl (Sub.cons (t := 80) rfl (Sub.cons (t := 79) rfl (Sub.cons (t := 78) rfl (Sub.cons (t := 77) rfl (Sub.cons (t := 76) rfl (Sub.cons (t := 75) rfl (Sub.cons (t := 74) rfl (Sub.cons (t := 73) rfl (Sub.cons (t := 72) rfl (Sub.cons (t := 71) rfl (Sub.cons (t := 70) rfl (Sub.cons (t := 69) rfl (Sub.skip rfl (Sub.skip rfl (Sub.skip rfl (Sub.skip rfl (Sub.skip rfl (Sub.skip rfl (Sub.skip rfl (Sub.skip rfl (Sub.skip rfl (Sub.skip rfl (Sub.skip rfl (Sub.skip rfl (Sub.skip rfl (Sub.skip rfl (Sub.skip rfl (Sub.skip rfl (Sub.skip rfl (Sub.skip rfl (Sub.skip rfl (Sub.skip rfl (Sub.skip rfl (Sub.skip rfl (Sub.skip rfl (Sub.skip rfl (Sub.skip rfl (Sub.skip rfl (Sub.skip rfl (Sub.skip rfl (Sub.skip rfl (Sub.skip rfl (Sub.refl _))))))))))))))))))))))))))))))))))))))))))))))))))))))))))))) (.cons (.there .here) rfl (.cons .here rfl (.cons .here rfl (.cons .here rfl (.cons .here rfl (.cons .here rfl (.cons .here rfl (.cons .here rfl (.cons .here rfl (.cons .here rfl .nil))))))))))
      refine J2.out (fun b92 b13 => ?_)
      refine RunE.next ?_
      refine RunC.seq ?_
      refine RunC.region ?_
      refine RunL.val (Val.load_agg rfl (.head _) ty_98 rfl) rfl rfl rfl ?_
      refine RunL.callP (isCall_func rfl ent_72) rfl rfl rfl (fun w hm => spanOf_calls (_, _) w) ?_
      refine RunL.sto (Sto.store rfl rfl (.there (.there (.there (.there (.there (.there (.there (.there .here)))))))) ty_23 rfl rfl) rfl rfl ?_
      refine RunL.sto (Sto.store rfl rfl (.there (.there (.there (.there (.there (.there (.there .here))))))) ty_31 rfl rfl) rfl rfl ?_
      refine RunL.nil ?_
      refine RunE.next ?_
      refine RunC.ret ?_
      exact RunE.retD catches ent_66 (.r2 rfl (.agg rfl (.tail _ (.tail _ (.tail _ (.tail _ (.tail _ (.tail _ (.tail _ (.tail _ (.head _))))))))) ty_23 rfl) (.one rfl (.tail _ (.tail _ (.tail _ (.tail _ (.tail _ (.tail _ (.tail _ (.head _)))))))) ty_31 rfl)) (by simp [distX, ha18, thingAt_eq hk ht, ok38, c0', b2v, Int.not_lt.2 c1']; refine ⟨rfl, ?_⟩; show p.far = min p.far p.far; omega)
end Go.Proofs.Ytjijeeadmhpfcaa
/- Walks of package years: what each small function returns. -/
set_option linter.unusedSimpArgs false
set_option linter.unusedVariables false
namespace Go.Proofs.Ytjijeeadmhpfcaa
open Go Go.Eng Go.Pw1

theorem ywithin_calls (n lo hi : Int) (W : World) : Calls Try.prog 53 #[.int .i64 n, .int .i64 lo, .int .i64 hi] W (Pure (.bool (within n lo hi)) W) := by
  refine calls_start Try.func53 rfl rfl ?_
  refine RunC.seq ?_
  refine RunC.region ?_
  refine RunL.val (Val.pure rfl) rfl rfl rfl ?_
  refine RunL.nil ?_
  refine RunE.next ?_
  refine RunC.seq ?_
  refine RunC.region ?_
  iterate 4 refine RunL.val (Val.pure rfl) rfl rfl rfl ?_
  refine RunL.andPart (dj := 10) (dp := 14) 4 rfl (fun g10 => by
    have g10' := g10
    try simp only [decide_eq_true_eq, decide_eq_false_iff_not, Bool.not_eq_true', Bool.not_eq_false', Bool.and_eq_true, Bool.or_eq_true, Bool.and_eq_false_iff, Bool.or_eq_false_iff, Int.not_le, Int.not_lt] at g10'
    iterate 4 refine RunL.val (Val.pure rfl) rfl rfl rfl ?_
    exact RunL.segEnd (Sub.cons rfl (Sub.skip rfl (Sub.skip rfl (Sub.skip rfl (Sub.skip rfl (Sub.same rfl (by rw [g10]) (Sub.refl _))))))) (List.Sublist.refl _)
  ) (fun g10 => by
    have g10' := g10
    try simp only [decide_eq_true_eq, decide_eq_false_iff_not, Bool.not_eq_true', Bool.not_eq_false', Bool.and_eq_true, Bool.or_eq_true, Bool.and_eq_false_iff, Bool.or_eq_false_iff, Int.not_le, Int.not_lt] at g10'
    iterate 3 refine RunL.no rfl rfl rfl ?_
    refine RunL.val (Val.pure rfl) rfl rfl rfl ?_
    exact RunL.segEnd (Sub.cons rfl (Sub.skip rfl (Sub.skip rfl (Sub.skip rfl (Sub.skip rfl (Sub.same rfl (by rw [g10]) (Sub.refl _))))))) (List.Sublist.refl _)
  ) ?_
  refine RunL.val (Val.pure rfl) rfl rfl rfl ?_
  refine RunL.nil ?_
  refine RunE.next ?_
  refine RunC.ret ?_
  exact RunE.retP (.r1 rfl (.tmp rfl)) (by first | rfl | simp)
def ymisf (k : Int) : Value := .iface 107 (.agg #[.int .i64 k])
theorem yneed_calls (b : Bool) (e : Int) (W : World) : Calls Try.prog 42 #[.bool b, .int .i64 e] W (Try ymisf (needX b e) W) := by
  refine calls_start Try.func42 rfl rfl ?_
  refine RunC.seq ?_
  refine RunC.region ?_
  refine RunL.val (Val.pure rfl) rfl rfl rfl ?_
  refine RunL.val (Val.pure rfl) rfl rfl rfl ?_
  refine RunL.nil ?_
  refine RunE.next ?_
  refine RunC.cond rfl ?_ ?_
  · intro c0
    have c0' := c0; clear c0
    try simp only [decide_eq_true_eq, decide_eq_false_iff_not, Bool.not_eq_true', Bool.not_eq_false', Bool.and_eq_true, Bool.or_eq_true, Bool.and_eq_false_iff, Bool.or_eq_false_iff, Int.not_le, Int.not_lt] at c0'
    refine RunC.region ?_
    refine RunL.val (Val.pure rfl) rfl rfl rfl ?_
    refine RunL.val (Val.build (parts := [(0, .tmp 6)]) rfl zero_107 places_107 rfl) rfl rfl rfl ?_
    refine RunL.val (Val.makeInterface rfl noif_107) rfl rfl rfl ?_
    refine RunL.panicOp rfl ?_
    exact RunE.panicT (k := e) (by simp [needX, show b = false by simpa using c0'])
  · intro c0
    have c0' := c0; clear c0
    try simp only [decide_eq_true_eq, decide_eq_false_iff_not, Bool.not_eq_true', Bool.not_eq_false', Bool.and_eq_true, Bool.or_eq_true, Bool.and_eq_false_iff, Bool.or_eq_false_iff, Int.not_le, Int.not_lt] at c0'
    refine RunC.skip ?_
    exact RunE.finT (.r0 rfl) (by simp [needX, show b = true by simpa using c0'])
theorem yless_calls (a b : Int × Int) (h : (-9000000000000000000 ≤ a.1 - b.2 ∧ a.1 - b.2 ≤ 9000000000000000000) ∧ -9000000000000000000 ≤ a.2 - b.1 ∧ a.2 - b.1 ≤ 9000000000000000000) (W : World) : Calls Try.prog 57 #[b2v a, b2v b] W (Pure (b2v (lessZ a b)) W) := by
  refine calls_start Try.func57 rfl rfl ?_
  refine RunC.seq ?_
  refine RunC.region ?_
  refine RunL.new (New.box rfl) rfl rfl rfl (fun b2 => ?_)
  refine RunL.new (New.box rfl) rfl rfl rfl (fun b3 => ?_)
  refine RunL.new (New.alloc zero_64) rfl rfl rfl (fun b4 => ?_)
  refine RunL.nil ?_
  refine RunE.next ?_
  refine RunC.seq ?_
  refine RunC.region ?_
  refine RunL.val (Val.fieldAddr rfl fld_64_0) rfl rfl rfl ?_
  refine RunL.val (Val.load_one rfl (.tail _ (.tail _ (.head _))) ty_3 rfl) rfl rfl rfl ?_
  refine RunL.val (Val.fieldAddr rfl fld_64_1) rfl rfl rfl ?_
  refine RunL.val (Val.load_one rfl (.tail _ (.head _)) ty_3 rfl) rfl rfl rfl ?_
  refine RunL.val (Val.sub' rfl rfl (IntWalk.i64_in _ ⟨by omega, by omega⟩)) rfl rfl rfl ?_
  refine RunL.val (Val.fieldAddr rfl fld_64_1) rfl rfl rfl ?_
  refine RunL.val (Val.load_one rfl (.tail _ (.tail _ (.head _))) ty_3 rfl) rfl rfl rfl ?_
  refine RunL.val (Val.fieldAddr rfl fld_64_0) rfl rfl rfl ?_
  refine RunL.val (Val.load_one rfl (.tail _ (.head _)) ty_3 rfl) rfl rfl rfl ?_
  refine RunL.val (Val.sub' rfl rfl (IntWalk.i64_in _ ⟨by omega, by omega⟩)) rfl rfl rfl ?_
  refine RunL.val (Val.build (parts := [(0, .tmp 9), (1, .tmp 14)]) rfl zero_64 places_64 rfl) rfl rfl rfl ?_
  refine RunL.sto (Sto.store rfl rfl .here ty_64 rfl rfl) rfl rfl ?_
  refine RunL.nil ?_
  refine RunE.next ?_
  refine RunC.ret ?_
  exact RunE.retP (.r1 rfl (.agg rfl (.head _) ty_64 rfl)) (by first | rfl | simp)
theorem yviews_calls (W : World) : Calls Try.prog 73 #[] W (Pure (.agg #[.func (.func 90) #[] #[], .func (.func 91) #[] #[]]) W) := by
  refine calls_start Try.func73 rfl rfl ?_
  refine RunC.seq ?_
  refine RunC.region ?_
  refine RunL.new (New.alloc zero_113) rfl rfl rfl (fun b0 => ?_)
  refine RunL.nil ?_
  refine RunE.next ?_
  refine RunC.seq ?_
  refine RunC.region ?_
  refine RunL.val (Val.build (parts := [(0, .func 90), (1, .func 91)]) rfl zero_113 places_113 rfl) rfl rfl rfl ?_
  refine RunL.sto (Sto.store rfl rfl .here ty_113 rfl rfl) rfl rfl ?_
  refine RunL.nil ?_
  refine RunE.next ?_
  refine RunC.ret ?_
  exact RunE.retP (.r1 rfl (.agg rfl (.head _) ty_113 rfl)) (by first | rfl | simp)
theorem yfirst_calls (g : Gl) (a : Ga) (b : Nat) (W : World) (hb : W.heap[b]? = some (.cells (g.cells a).toArray 110 (0, 0))) : Calls Try.prog 90 #[.pointer (some ⟨b, 0, none⟩)] W (Pure (g.f.v a.q1 a.c1) W) := by
  refine calls_start Try.func90 rfl rfl ?_
  refine RunC.seq ?_
  refine RunC.region ?_
  refine RunL.new (New.alloc zero_26) rfl rfl rfl (fun b2 => ?_)
  refine RunL.nil ?_
  refine RunE.next ?_
  refine RunC.seq ?_
  refine RunC.region ?_
  refine RunL.val (Val.pure rfl) rfl rfl rfl ?_
  refine RunL.val (Val.pure rfl) rfl rfl rfl ?_
  refine RunL.val (Val.fieldAddr rfl fld_110_0) rfl rfl rfl ?_
  refine RunL.val (Val.fieldAddr rfl fld_28_0) rfl rfl rfl ?_
  refine RunL.val (Val.oload_agg rfl hb (by simp) ty_26 rfl) rfl rfl rfl ?_
  refine RunL.sto (Sto.store rfl rfl .here ty_26 rfl rfl) rfl rfl ?_
  refine RunL.nil ?_
  refine RunE.next ?_
  refine RunC.ret ?_
  exact RunE.retP (.r1 rfl (.agg rfl (.head _) ty_26 rfl)) (by first | rfl | simp)
theorem ysecond_calls (g : Gl) (a : Ga) (b : Nat) (W : World) (hb : W.heap[b]? = some (.cells (g.cells a).toArray 110 (0, 0))) : Calls Try.prog 91 #[.pointer (some ⟨b, 0, none⟩)] W (Pure (g.s.v a.q2 a.c2) W) := by
  refine calls_start Try.func91 rfl rfl ?_
  refine RunC.seq ?_
  refine RunC.region ?_
  refine RunL.new (New.alloc zero_26) rfl rfl rfl (fun b2 => ?_)
  refine RunL.nil ?_
  refine RunE.next ?_
  refine RunC.seq ?_
  refine RunC.region ?_
  refine RunL.val (Val.pure rfl) rfl rfl rfl ?_
  refine RunL.val (Val.pure rfl) rfl rfl rfl ?_
  refine RunL.val (Val.fieldAddr rfl fld_110_0) rfl rfl rfl ?_
  refine RunL.val (Val.fieldAddr rfl fld_28_1) rfl rfl rfl ?_
  refine RunL.val (Val.oload_agg rfl hb (by simp) ty_26 rfl) rfl rfl rfl ?_
  refine RunL.sto (Sto.store rfl rfl .here ty_26 rfl rfl) rfl rfl ?_
  refine RunL.nil ?_
  refine RunE.next ?_
  refine RunC.ret ?_
  exact RunE.retP (.r1 rfl (.agg rfl (.head _) ty_26 rfl)) (by first | rfl | simp)
theorem yisThing_calls (g : Gl) (a : Ga) (n : Int) (hl : g.f.things.length ≤ 100000000000) (W : World) : Calls Try.prog 36 #[g.v a, .int .i64 n] W (Pure (.bool (isThingG g n)) W) := by
  refine calls_start Try.func36 rfl rfl ?_
  refine RunC.seq ?_
  refine RunC.region ?_
  refine RunL.new (New.box rfl) rfl rfl rfl (fun b2 => ?_)
  refine RunL.val (Val.pure rfl) rfl rfl rfl ?_
  refine RunL.nil ?_
  refine RunE.next ?_
  refine RunC.seq ?_
  refine RunC.region ?_
  refine RunL.val (Val.pure rfl) rfl rfl rfl ?_
  refine RunL.val (Val.fieldAddr rfl fld_28_0) rfl rfl rfl ?_
  refine RunL.val (Val.fieldAddr rfl fld_26_5) rfl rfl rfl ?_
  refine RunL.val (Val.load_one rfl (.head _) ty_24 rfl) rfl rfl rfl ?_
  refine RunL.val (Val.len_sl rfl sl_24) rfl rfl rfl ?_
  refine RunL.val (Val.sub' rfl rfl (IntWalk.i64_in _ ⟨by omega, by omega⟩)) rfl rfl rfl ?_
  refine RunL.callP (isCall_func rfl ent_53) rfl rfl rfl (fun w hm => ywithin_calls _ _ _ w) ?_
  refine RunL.val (Val.pure rfl) rfl rfl rfl ?_
  refine RunL.nil ?_
  refine RunE.next ?_
  refine RunC.ret ?_
  exact RunE.retP (.r1 rfl (.tmp rfl)) (by first | rfl | simp)
end Go.Proofs.Ytjijeeadmhpfcaa
/- Walks of package years: division rounded down, the ends of numbers, the panic that is turned into an error. -/
set_option linter.unusedSimpArgs false
set_option linter.unusedVariables false
namespace Go.Proofs.Ytjijeeadmhpfcaa
open Go Go.Eng Go.Pw1

theorem tdiv_bd {a b M : Int} (hb : 0 < b) (h : -M ≤ a ∧ a ≤ M) : -M ≤ a.tdiv b ∧ a.tdiv b ≤ M := by
  rcases Int.le_total 0 a with ha | ha
  · rw [Int.tdiv_eq_ediv_of_nonneg ha]
    have h1 := Int.ediv_nonneg ha (show 0 ≤ b by omega)
    have h2 := Int.ediv_le_self b ha
    omega
  · obtain ⟨c, rfl⟩ : ∃ c, a = -c := ⟨-a, by omega⟩
    have hc : 0 ≤ c := by omega
    rw [Int.neg_tdiv, Int.tdiv_eq_ediv_of_nonneg hc]
    have h1 := Int.ediv_nonneg hc (show 0 ≤ b by omega)
    have h2 := Int.ediv_le_self b hc
    omega
theorem ydown_calls (a b : Int) (hb : 0 < b) (ha : -4000000000000000000 ≤ a ∧ a ≤ 4000000000000000000) (W : World) : Calls Try.prog 47 #[.int .i64 a, .int .i64 b] W (Pure (.int .i64 (a / b)) W) := by
  have hd := tdiv_bd hb ha
  refine calls_start Try.func47 rfl rfl ?_
  refine RunC.seq ?_
  refine RunC.region ?_
  refine RunL.val (Val.pure rfl) rfl rfl rfl ?_
  refine RunL.nil ?_
  refine RunE.next ?_
  refine RunC.seq ?_
  refine RunC.region ?_
  refine RunL.val (Val.pure rfl) rfl rfl rfl ?_
  refine RunL.val (Val.pure rfl) rfl rfl rfl ?_
  refine RunL.val (Val.quoT rfl rfl hb (IntWalk.i64_in _ ⟨by omega, by omega⟩)) rfl rfl rfl ?_
  refine RunL.val (Val.pure rfl) rfl rfl rfl ?_
  refine RunL.nil ?_
  refine RunE.next ?_
  refine RunC.seq ?_
  refine RunC.seq ?_
  refine RunC.region ?_
  refine RunL.val (Val.pure rfl) rfl rfl rfl ?_
  refine RunL.val (Val.pure rfl) rfl rfl rfl ?_
  refine RunL.val (Val.remT rfl rfl hb) rfl rfl rfl ?_
  refine RunL.val (Val.pure rfl) rfl rfl rfl ?_
  refine RunL.nil ?_
  refine RunE.next ?_
  refine RunC.cond rfl ?_ ?_
  · intro c0
    have c0' := c0; clear c0
    try simp only [decide_eq_true_eq, decide_eq_false_iff_not, Bool.not_eq_true', Bool.not_eq_false', Bool.and_eq_true, Bool.or_eq_true, Bool.and_eq_false_iff, Bool.or_eq_false_iff, Int.not_le, Int.not_lt] at c0'
    refine RunC.region ?_
    refine RunL.val (Val.pure rfl) rfl rfl rfl ?_
    refine RunL.val (Val.sub' rfl rfl (IntWalk.i64_in _ ⟨by omega, by omega⟩)) rfl rfl rfl ?_
    refine RunL.val (Val.pure rfl) rfl rfl rfl ?_
    refine RunL.nil ?_
    refine RunE.next ?_
    refine RunC.seq ?_
    refine RunC.region ?_
    refine RunL.val (Val.pure rfl) rfl rfl rfl ?_
    refine RunL.val (Val.pure rfl) rfl rfl rfl ?_
    refine RunL.nil ?_
    refine RunE.next ?_
    refine RunC.ret ?_
    exact RunE.retP (.r1 rfl (.tmp rfl)) (by rw [← down_eq hb, if_pos c0'])
  · intro c0
    have c0' := c0; clear c0
    try simp only [decide_eq_true_eq, decide_eq_false_iff_not, Bool.not_eq_true', Bool.not_eq_false', Bool.and_eq_true, Bool.or_eq_true, Bool.and_eq_false_iff, Bool.or_eq_false_iff, Int.not_le, Int.not_lt] at c0'
    refine RunC.skip ?_
    refine RunE.next ?_
    refine RunC.seq ?_
    refine RunC.region ?_
    refine RunL.val (Val.pure rfl) rfl rfl rfl ?_
    refine RunL.val (Val.pure rfl) rfl rfl rfl ?_
    refine RunL.nil ?_
    refine RunE.next ?_
    refine RunC.ret ?_
    exact RunE.retP (.r1 rfl (.tmp rfl)) (by rw [← down_eq hb, if_neg (by omega)])
theorem ediv_bd {a b M : Int} (hb : 0 < b) (h : -M ≤ a ∧ a ≤ M) : -M ≤ a / b ∧ a / b ≤ M := by
  constructor
  · rw [Int.le_ediv_iff_mul_le hb]
    have := Int.mul_le_mul_of_nonneg_left (show 1 ≤ b by omega) (show 0 ≤ M by omega)
    have h2 : -M * b = -(M * b) := Int.neg_mul _ _
    omega
  · rcases Int.le_total 0 a with ha | ha
    · have := Int.ediv_le_self b ha
      omega
    · have : a / b < 1 := by rw [Int.ediv_lt_iff_lt_mul hb]; omega
      omega
theorem yup_calls (a b : Int) (hb : 0 < b) (ha : -4000000000000000000 ≤ a ∧ a ≤ 4000000000000000000) (W : World) : Calls Try.prog 48 #[.int .i64 a, .int .i64 b] W (Pure (.int .i64 (-(-a / b))) W) := by
  have hd := ediv_bd (a := -a) (M := 4000000000000000000) hb (by omega)
  refine calls_start Try.func48 rfl rfl ?_
  refine RunC.seq ?_
  refine RunC.region ?_
  refine RunL.val (Val.pure rfl) rfl rfl rfl ?_
  refine RunL.nil ?_
  refine RunE.next ?_
  refine RunC.seq ?_
  refine RunC.region ?_
  refine RunL.val (Val.pure rfl) rfl rfl rfl ?_
  refine RunL.val (Val.neg rfl (IntWalk.i64_in _ ⟨by omega, by omega⟩)) rfl rfl rfl ?_
  refine RunL.val (Val.pure rfl) rfl rfl rfl ?_
  refine RunL.callP (isCall_func rfl ent_47) rfl rfl rfl (fun w hm => ydown_calls (-a) b hb (by omega) w) ?_
  refine RunL.val (Val.neg rfl (IntWalk.i64_in _ ⟨by omega, by omega⟩)) rfl rfl rfl ?_
  refine RunL.val (Val.pure rfl) rfl rfl rfl ?_
  refine RunL.nil ?_
  refine RunE.next ?_
  refine RunC.ret ?_
  exact RunE.retP (.r1 rfl (.tmp rfl)) (by first | rfl | simp)
theorem minL_snoc {x : Int} {l : List Int} {k : Nat} (hk : k < l.length) : minL x (l.take (k + 1)) = min (minL x (l.take k)) l[k] := by
  rw [List.take_succ_eq_append_getElem hk, minL, List.foldl_append]; rfl
theorem maxL_snoc {x : Int} {l : List Int} {k : Nat} (hk : k < l.length) : maxL x (l.take (k + 1)) = max (maxL x (l.take k)) l[k] := by
  rw [List.take_succ_eq_append_getElem hk, maxL, List.foldl_append]; rfl
theorem yends_calls (x : Int) (l : List Int) (q : Option Addr) (b o cap : Nat) (W : World) (hS : Sl W q b o 1 (l.map fun v => [.int .i64 v])) (hl : l.length ≤ 100) :
    Calls Try.prog 77 #[.int .i64 x, .slice q l.length cap] W (Pure (.tuple #[.int .i64 (minL x l), .int .i64 (maxL x l)]) W) := by
  refine calls_start Try.func77 rfl rfl ?_
  refine RunC.seq ?_
  refine RunC.region ?_
  refine RunL.val (Val.pure rfl) rfl rfl rfl ?_
  refine RunL.val (Val.pure rfl) rfl rfl rfl ?_
  refine RunL.nil ?_
  refine RunE.next ?_
  refine RunC.seq ?_
  refine RunC.region ?_
  iterate 4 refine RunL.val (Val.pure rfl) rfl rfl rfl ?_
  refine RunL.nil ?_
  refine RunE.next ?_
  refine RunC.seq ?_
  refine RunC.seq ?_
  refine RunC.region ?_
  refine RunL.val (Val.pure rfl) rfl rfl rfl ?_
  refine RunL.val (Val.len_sl rfl sl_119) rfl rfl rfl ?_
  refine RunL.val (Val.pure rfl) rfl rfl rfl ?_
  refine RunL.nil ?_
  refine RunE.next ?_
  refine RunC.block ?_
  refine RunC.loopK (l.length) (fun k q => (12, .int .i64 (k : Int)) :: (4, .int .i64 (minL x (l.take k))) :: (5, .int .i64 (maxL x (l.take k))) :: q) (fun _ => _) (fun _ => []) (fun _ => True) trivial rfl (Sub.consE (t := 12) rfl rfl (Sub.consE (t := 4) rfl rfl (Sub.consE (t := 5) rfl rfl (Sub.cons (t := 10) rfl (Sub.cons (t := 11) rfl (Sub.nil _)))))) .nil ?_
  intro k kN kI
  clear kI
  refine RunC.seq ?_
  refine RunC.region ?_
  refine RunL.val (Val.pure rfl) rfl rfl rfl ?_
  refine RunL.nil ?_
  refine RunE.next ?_
  refine RunC.seq ?_
  refine RunC.cond rfl ?_ ?_
  · intro c0
    have c0' := c0; clear c0
    try simp only [decide_eq_true_eq, decide_eq_false_iff_not, Bool.not_eq_true', Bool.not_eq_false', Bool.and_eq_true, Bool.or_eq_true, Bool.and_eq_false_iff, Bool.or_eq_false_iff, Int.not_le, Int.not_lt] at c0'
    have hk : k < l.length := by omega
    refine RunC.skip ?_
    refine RunE.next ?_
    refine RunC.seq ?_
    refine RunC.block ?_
    refine RunC.seq ?_
    refine RunC.region ?_
    refine RunL.val (Val.indexAddr_slp rfl rfl sl_119 (by omega) (by omega) (hS.ptrM hk)) rfl rfl rfl ?_
    refine RunL.val (Val.load_gen rfl (fun w hm => hS.loadM1 (by decide) hm (by simp) ty_3 hk (v := .int .i64 l[k]) rfl)) rfl rfl rfl ?_
    refine RunL.val (Val.pure rfl) rfl rfl rfl ?_
    refine RunL.nil ?_
    refine RunE.next ?_
    refine RunC.region ?_
    refine RunL.val (Val.pure rfl) rfl rfl rfl ?_
    refine RunL.val (Val.pure rfl) rfl rfl rfl ?_
    refine RunL.val (Val.min rfl rfl) rfl rfl rfl ?_
    refine RunL.val (Val.pure rfl) rfl rfl rfl ?_
    refine RunL.val (Val.pure rfl) rfl rfl rfl ?_
    refine RunL.val (Val.max rfl rfl) rfl rfl rfl ?_
    refine RunL.val (Val.pure rfl) rfl rfl rfl ?_
    refine RunL.val (Val.pure rfl) rfl rfl rfl ?_
    refine RunL.nil ?_
    refine RunE.block_normal ?_
    refine RunE.next ?_
    refine RunC.region ?_
    refine RunL.val (Val.add rfl rfl (IntWalk.i64_in _ ⟨by omega, by omega⟩)) rfl rfl rfl ?_
    refine RunL.val (Val.pure rfl) rfl rfl rfl ?_
    refine RunL.nil ?_
    exact RunE.round (by omega) trivial rfl (Sub.consE (t := 12) rfl rfl (Sub.consE (t := 4) rfl (by rw [minL_snoc hk]) (Sub.consE (t := 5) rfl (by rw [maxL_snoc hk]) (Sub.cons (t := 10) rfl (Sub.cons (t := 11) rfl (Sub.nil _)))))) .nil
  · intro c0
    have c0' := c0; clear c0
    try simp only [decide_eq_true_eq, decide_eq_false_iff_not, Bool.not_eq_true', Bool.not_eq_false', Bool.and_eq_true, Bool.or_eq_true, Bool.and_eq_false_iff, Bool.or_eq_false_iff, Int.not_le, Int.not_lt] at c0'
    obtain rfl : k = l.length := by omega
    rw [List.take_length]
    refine RunC.exit ?_
    refine RunE.pass_exit ?_
    refine RunE.pass_exit ?_
    refine RunE.block_here ?_
    refine RunE.next ?_
    refine RunC.seq ?_
    refine RunC.region ?_
    iterate 4 refine RunL.val (Val.pure rfl) rfl rfl rfl ?_
    refine RunL.nil ?_
    refine RunE.next ?_
    refine RunC.ret ?_
    exact RunE.retP (.r2 rfl (.tmp rfl) (.tmp rfl)) (by first | rfl | simp)
end Go.Proofs.Ytjijeeadmhpfcaa
