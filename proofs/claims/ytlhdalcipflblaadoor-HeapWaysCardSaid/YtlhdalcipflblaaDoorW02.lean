/- Layer 1 in plain words: pairs, what the package and the reference compute of them, and that they are the same. No program is in sight. -/
import Derived.Test.YtlhdalcipflblaaDoorW01
import Derived.Test.YtlhdalcipflblaaDoorProg
set_option linter.unusedSimpArgs false
set_option linter.unusedVariables false
namespace Go.Pw1
open Go Go.Eng

structure Sp where
  lo : Int
  hi : Int
  deriving DecidableEq
structure Th where
  lx : Sp
  ly : Sp
  rx : Sp
  ry : Sp
  far : Int
  deriving DecidableEq
structure Pr where
  focal : Sp
  base : Sp
  tilt : Int
  near : Int
  far : Int
  things : List Th

abbrev i64 (n : Int) : Value := .int .i64 n
def Sp.v (s : Sp) : Value := .agg #[.int .i64 s.lo, .int .i64 s.hi]
def Th.cells (t : Th) : List Value := [.int .i64 t.lx.lo, .int .i64 t.lx.hi, .int .i64 t.ly.lo, .int .i64 t.ly.hi, .int .i64 t.rx.lo, .int .i64 t.rx.hi, .int .i64 t.ry.lo, .int .i64 t.ry.hi, .int .i64 t.far]
def Th.v (t : Th) : Value := .agg t.cells.toArray
def Pr.cells (p : Pr) (q : Option Addr) (cap : Nat) : List Value := [.int .i64 p.focal.lo, .int .i64 p.focal.hi, .int .i64 p.base.lo, .int .i64 p.base.hi, .int .i64 p.tilt, .int .i64 p.near, .int .i64 p.far, .slice q p.things.length cap]
def Pr.v (p : Pr) (q : Option Addr) (cap : Nat) : Value := .agg (p.cells q cap).toArray
/-- A view: a pair and its powers. -/
def vwCells (p : Pr) (q : Option Addr) (cap : Nat) (w : Int × Int) : List Value := [.int .i64 p.focal.lo, .int .i64 p.focal.hi, .int .i64 p.base.lo, .int .i64 p.base.hi, .int .i64 p.tilt, .int .i64 p.near, .int .i64 p.far, .slice q p.things.length cap, .int .i64 w.1, .int .i64 w.2]
def b2c (b : Int × Int) : List Value := [.int .i64 b.1, .int .i64 b.2]
def b2v (b : Int × Int) : Value := .agg #[.int .i64 b.1, .int .i64 b.2]

/-- A number below another one, times one. -/
theorem mul_bd {a b A B : Int} (ha : 0 ≤ a) (ha' : a ≤ A) (hb : 0 ≤ b) (hb' : b ≤ B) : 0 ≤ a * b ∧ a * b ≤ A * B :=
  ⟨Int.mul_nonneg ha hb, Int.le_trans (Int.mul_le_mul_of_nonneg_left hb' ha) (Int.mul_le_mul_of_nonneg_right ha' (Int.le_trans hb hb'))⟩

/-! ## The package -/
def within (n lo hi : Int) : Bool := decide (lo ≤ n) && decide (n ≤ hi)
def isSpan (s : Sp) (lo hi : Int) : Bool := decide (lo ≤ s.lo) && decide (s.lo ≤ s.hi) && decide (s.hi ≤ hi)
def isPlace (x y : Sp) : Bool := isSpan x (-4000) 4000 && isSpan y (-4000) 4000
def bad (p : Pr) (t : Th) : Bool := !isPlace t.lx t.ly || !isPlace t.rx t.ry || (!decide (t.far = 0) && !within t.far p.near p.far)
def isPair (p : Pr) : Bool :=
  (isSpan p.focal 1 50000 && isSpan p.base 1 10000 && within p.tilt 0 1000) && within p.near 2000 1073741824 && within p.far p.near 1073741824 && decide ((p.things.length : Int) ≤ 12) && !p.things.any (bad p)

def Sp.Ok (s : Sp) (b : Int) : Prop := -b ≤ s.lo ∧ s.lo ≤ s.hi ∧ s.hi ≤ b
def Th.Ok (t : Th) : Prop := t.lx.Ok 4000 ∧ t.ly.Ok 4000 ∧ t.rx.Ok 4000 ∧ t.ry.Ok 4000
structure Pr.Ok (p : Pr) : Prop where
  f1 : 1 ≤ p.focal.lo
  f2 : p.focal.lo ≤ p.focal.hi
  f3 : p.focal.hi ≤ 50000
  b1 : 1 ≤ p.base.lo
  b2 : p.base.lo ≤ p.base.hi
  b3 : p.base.hi ≤ 10000
  t1 : 0 ≤ p.tilt
  t2 : p.tilt ≤ 1000
  n1 : 2000 ≤ p.near
  n2 : p.near ≤ p.far
  n3 : p.far ≤ 1073741824
  len : p.things.length ≤ 12
  ths : ∀ t ∈ p.things, t.Ok ∧ (t.far = 0 ∨ (p.near ≤ t.far ∧ t.far ≤ p.far))
theorem isPair_ok {p : Pr} (h : isPair p = true) : p.Ok := by
  simp only [isPair, isSpan, within, Bool.and_eq_true, decide_eq_true_eq, Bool.not_eq_true', List.any_eq_false] at h
  obtain ⟨⟨⟨⟨⟨⟨h1, h2⟩, h3⟩, h4⟩, h5⟩, h6⟩, h7⟩ := h
  refine ⟨by omega, by omega, by omega, by omega, by omega, by omega, by omega, by omega, by omega, by omega, by omega, by omega, fun t ht => ?_⟩
  have := h7 t ht
  simp only [bad, isPlace, isSpan, within, Bool.or_eq_true, Bool.not_eq_true', Bool.and_eq_true, decide_eq_true_eq, Bool.and_eq_false_iff, decide_eq_false_iff_not, not_or, Bool.not_eq_false', not_and] at this
  unfold Th.Ok Sp.Ok
  refine ⟨by omega, ?_⟩
  by_cases h0 : t.far = 0
  · exact .inl h0
  · right; omega

def shift (t : Th) : Int × Int := (t.lx.lo - t.rx.hi, t.lx.hi - t.rx.lo)
def nar (a b : Int × Int) : Int × Int := (max a.1 b.1, min a.2 b.2)
def narL (a : Int × Int) (l : List (Int × Int)) : Int × Int := l.foldl nar a
theorem narL_snoc (a : Int × Int) (l : List (Int × Int)) (x : Int × Int) : narL a (l ++ [x]) = nar (narL a l) x := by simp [narL, List.foldl_append]
def isB (a : Int × Int) : Bool := decide (a.1 ≤ a.2)
theorem shift_bd {t : Th} (h : t.Ok) : (-8000 ≤ (shift t).1 ∧ (shift t).1 ≤ 8000) ∧ (-8000 ≤ (shift t).2 ∧ (shift t).2 ≤ 8000) := by
  obtain ⟨⟨h1, h2, h3⟩, ⟨h4, h5, h6⟩, ⟨h7, h8, h9⟩, ⟨h10, h11, h12⟩⟩ := h
  simp only [shift]
  omega
def shownS (t : Th) : Int × Int := nar (shift t) (0, 2000)
def levelS (p : Pr) (t : Th) : Bool := isB (nar (t.ly.lo - t.ry.hi, t.ly.hi - t.ry.lo) (-p.tilt, p.tilt))
def powersS (p : Pr) (t : Th) (s : Int × Int) : Int × Int := if t.far = 0 then (s.1 * p.near, (s.2 + 1) * p.far - 1) else (s.1 * t.far, (s.2 + 1) * t.far - 1)
/-- The powers, of some, with which a thing stands still; and whether there are any. -/
def stillS (p : Pr) (t : Th) (w : Int × Int) : (Int × Int) × Bool :=
  if isB (shownS t) && levelS p t then (nar w (powersS p t (shownS t)), isB (nar w (powersS p t (shownS t)))) else (w, false)

theorem shown_bd {t : Th} (h : isB (shownS t) = true) : 0 ≤ (shownS t).1 ∧ (shownS t).1 ≤ (shownS t).2 ∧ (shownS t).2 ≤ 2000 := by
  simp only [isB, decide_eq_true_eq] at h
  refine ⟨?_, h, ?_⟩
  · simp only [shownS, nar]; omega
  · simp only [shownS, nar]; omega
/-- The index of the first one; -1: there is none. -/
def idxF {α : Type} (f : α → Bool) : List α → Int
  | [] => -1
  | x :: l => if f x then 0 else if idxF f l < 0 then -1 else idxF f l + 1
theorem idxF_ge {α : Type} (f : α → Bool) : ∀ l, -1 ≤ idxF f l
  | [] => by simp [idxF]
  | x :: l => by have := idxF_ge f l; unfold idxF; split <;> (try split) <;> omega
theorem idxF_none {α : Type} (f : α → Bool) : ∀ l, l.any f = false → idxF f l = -1
  | [], _ => rfl
  | x :: l, h => by
    simp only [List.any_cons, Bool.or_eq_false_iff] at h
    have := idxF_none f l h.2
    simp [idxF, h.1, this]
theorem idxF_any {α : Type} (f : α → Bool) : ∀ l, decide (0 ≤ idxF f l) = l.any f
  | [] => by simp [idxF]
  | x :: l => by
    have ih := idxF_any f l
    have := idxF_ge f l
    cases hx : f x
    · simp only [List.any_cons, hx, Bool.false_or, ← ih, idxF]
      by_cases h : idxF f l < 0
      · simp [h, show ¬ 0 ≤ idxF f l by omega]
      · simp [h, show 0 ≤ idxF f l by omega]; omega
    · simp [idxF, hx]
theorem idxF_hit {α : Type} (f : α → Bool) : ∀ (l : List α) (k : Nat) (h : k < l.length), (l.take k).any f = false → f l[k] = true → idxF f l = k
  | [], k, h, _, _ => by simp at h
  | x :: l, 0, _, _, h => by simp at h; simp [idxF, h]
  | x :: l, k + 1, h, h1, h2 => by
    simp only [List.take_succ_cons, List.any_cons, Bool.or_eq_false_iff] at h1
    have ih := idxF_hit f l k (by simpa using h) h1.2 (by simpa using h2)
    simp only [idxF, h1.1, ih]
    simp
    omega
theorem any_snoc {α : Type} {f : α → Bool} {l : List α} {k : Nat} (h : k < l.length) (h1 : (l.take k).any f = false) (h2 : f l[k] = false) : (l.take (k + 1)).any f = false := by
  rw [List.take_succ_eq_append_getElem h, List.any_append, h1]
  simp [h2]

theorem any_hit {α : Type} {f : α → Bool} {l : List α} {k : Nat} (h : k < l.length) (h2 : f l[k] = true) : l.any f = true := List.any_eq_true.2 ⟨_, List.getElem_mem h, h2⟩
def needX (b : Bool) (e : Int) : Except Int Value := if b then .ok (.tuple #[]) else .error e
theorem need_ok {b : Bool} {e : Int} {v : Value} (h : needX b e = .ok v) : b = true ∧ v = .tuple #[] := by
  unfold needX at h; split at h
  · cases h; exact ⟨by assumption, rfl⟩
  · cases h
theorem need_err {b : Bool} {e k : Int} (h : needX b e = .error k) : b = false ∧ k = e := by
  unfold needX at h; split at h
  · cases h
  · cases h; exact ⟨by simp_all, rfl⟩
/-- A pair is opened, with these numbers of things. -/
def openX (p : Pr) (l : List Int) : Except Int Unit :=
  if isPair p then (if l.any (fun n => !within n 0 ((p.things.length : Int) - 1)) then .error 2 else .ok ()) else .error 1
/-- The powers behind some landmarks; none: there is no truth. -/
def lookL (p : Pr) (w : Int × Int) : List Th → Option (Int × Int)
  | [] => some w
  | t :: l => if t.far = 0 then lookL p w l else if (stillS p t w).2 then lookL p (stillS p t w).1 l else none
def lookS (p : Pr) : Option (Int × Int) := lookL p (p.focal.lo * p.base.lo, p.focal.hi * p.base.hi) p.things
def lookX (p : Pr) : Except Int (Int × Int) := match lookS p with | some w => .ok w | none => .error 4
theorem lookL_append (p : Pr) : ∀ (l l2 : List Th) (w : Int × Int), lookL p w (l ++ l2) = match lookL p w l with | some u => lookL p u l2 | none => none
  | [], l2, w => by simp [lookL]
  | t :: l, l2, w => by
    simp only [List.cons_append, lookL]
    split
    · exact lookL_append p l l2 w
    · split
      · exact lookL_append p l l2 _
      · rfl
theorem look_step {p : Pr} {l : List Th} {w u : Int × Int} {k : Nat} (hk : k < l.length) {t : Th} (ht : l[k] = t) (h : lookL p w (l.take k) = some u) : lookL p w (l.take (k + 1)) = lookL p u [t] := by
  subst ht
  rw [List.take_succ_eq_append_getElem hk, lookL_append, h]
theorem look_fail {p : Pr} {l : List Th} {w u : Int × Int} {k : Nat} (hk : k < l.length) {t : Th} (ht : l[k] = t) (h : lookL p w (l.take k) = some u) (h2 : lookL p u [t] = none) : lookL p w l = none := by
  have h3 : lookL p w (l.take (k + 1)) = none := by rw [look_step hk ht h, h2]
  have h4 := lookL_append p (l.take (k + 1)) (l.drop (k + 1)) w
  rw [List.take_append_drop, h3] at h4
  exact h4
theorem openX_ok {p : Pr} {l : List Int} {u : Unit} (h : openX p l = .ok u) : isPair p = true ∧ l.any (fun n => !within n 0 ((p.things.length : Int) - 1)) = false := by
  unfold openX at h
  split at h
  · split at h
    · cases h
    · exact ⟨by assumption, by simp_all⟩
  · cases h
def truthsX (p : Pr) (l : List Int) : Except Int (Int × Int) := match openX p l with | .error k => .error k | .ok _ => lookX p

theorem openX_in {p : Pr} {l : List Int} {u : Unit} (h : openX p l = .ok u) {n : Int} (hn : n ∈ l) : ∃ k : Nat, n = k ∧ k < p.things.length := by
  have h2 := (openX_ok h).2
  have h3 := List.any_eq_false.1 h2 n hn
  simp only [within, Bool.not_eq_true', Bool.and_eq_true, decide_eq_true_eq, Bool.not_eq_false', Bool.not_eq_true, Bool.not_eq_false] at h3
  obtain ⟨k, rfl⟩ := Int.eq_ofNat_of_zero_le (by omega : 0 ≤ n)
  exact ⟨k, rfl, by omega⟩
theorem truthsX_ok {p : Pr} {l : List Int} {w : Int × Int} (h : truthsX p l = .ok w) : openX p l = .ok () ∧ lookS p = some w := by
  unfold truthsX lookX at h
  split at h
  · cases h
  · rename_i u hu
    split at h
    · rename_i w' hw
      cases h
      exact ⟨hu, hw⟩
    · cases h
theorem look_in {p : Pr} : ∀ {l : List Th} {w u : Int × Int}, lookL p w l = some u → w.1 ≤ w.2 → w.1 ≤ u.1 ∧ u.2 ≤ w.2 ∧ u.1 ≤ u.2
  | [], w, u, h, h0 => by cases h; omega
  | t :: l, w, u, h, h0 => by
    simp only [lookL] at h
    split at h
    · exact look_in h h0
    · split at h
      · rename_i hs
        have hst : (stillS p t w).1.1 ≤ (stillS p t w).1.2 ∧ w.1 ≤ (stillS p t w).1.1 ∧ (stillS p t w).1.2 ≤ w.2 := by
          unfold stillS at hs ⊢
          split
          · rename_i hc
            rw [if_pos hc] at hs
            simp only [isB, decide_eq_true_eq] at hs
            refine ⟨hs, ?_, ?_⟩ <;> simp only [nar] <;> omega
          · rename_i hc
            rw [if_neg hc] at hs; cases hs
        have := look_in h hst.1
        omega
      · cases h
theorem look_bd {p : Pr} (hp : p.Ok) {w : Int × Int} (h : lookX p = .ok w) : 1 ≤ w.1 ∧ w.1 ≤ w.2 ∧ w.2 ≤ 500000000 := by
  have f1 := hp.f1
  have f2 := hp.f2
  have f3 := hp.f3
  have b1 := hp.b1
  have b2 := hp.b2
  have b3 := hp.b3
  have m2 := mul_bd (a := p.focal.hi) (b := p.base.hi) (A := 50000) (B := 10000) (by omega) (by omega) (by omega) (by omega)
  have m1 : 1 * 1 ≤ p.focal.lo * p.base.lo := Int.mul_le_mul f1 b1 (by omega) (by omega)
  have m3 : p.focal.lo * p.base.lo ≤ p.focal.hi * p.base.hi := Int.mul_le_mul f2 b2 (by omega) (by omega)
  unfold lookX at h
  split at h
  · rename_i w' hw
    cases h
    have := look_in (show lookL p _ p.things = some w from hw) m3
    simp only at this
    omega
  · cases h
theorem div_rng {a b : Int} (h0 : 0 ≤ a) (h1 : a ≤ 1000000000000) (hb : 0 < b) : -9223372036854775808 ≤ a / b ∧ a / b ≤ 9223372036854775807 := by
  have h2 := Int.ediv_nonneg h0 (Int.le_of_lt hb)
  have h3 := Int.ediv_le_self b h0
  omega
/-- What the functions return. -/
def thingAt (p : Pr) (n : Int) : Th := p.things.getD n.toNat ⟨⟨0, 0⟩, ⟨0, 0⟩, ⟨0, 0⟩, ⟨0, 0⟩, 0⟩
theorem thingAt_eq {p : Pr} {k : Nat} {t : Th} (hk : k < p.things.length) (ht : p.things[k] = t) : thingAt p (k : Int) = t := by simp [thingAt, hk, ht]
def shiftX (p : Pr) (n : Int) : (Int × Int) × Int := match openX p [n] with | .error k => ((0, 0), k) | .ok _ => (shift (thingAt p n), 0)
def nearerS (a b : Th) : Int := if (shift b).2 < (shift a).1 then 2 else if (shift b).1 < (shift a).2 then 1 else 0
def nearerX (p : Pr) (a b : Int) : Int × Int := match openX p [a, b] with | .error k => (0, k) | .ok _ => (nearerS (thingAt p a) (thingAt p b), 0)
def powerX (p : Pr) : (Int × Int) × Int := match truthsX p [] with | .error k => ((0, 0), k) | .ok w => (w, 0)
def standsX (p : Pr) (far : Int) : (Int × Int) × Int :=
  match openX p [] with
  | .error k => ((0, 0), k)
  | .ok _ => if within far p.near p.far then (match lookX p with | .error k => ((0, 0), k) | .ok w => ((w.1 / far, w.2 / far), 0)) else ((0, 0), 2)


/-! ## The reference -/
theorem mul_bd2 {a b A B : Int} (ha : -A ≤ a ∧ a ≤ A) (hb : 0 ≤ b) (hb' : b ≤ B) : -(A * B) ≤ a * b ∧ a * b ≤ A * B := by
  have hA : 0 ≤ A := by omega
  have h1 := Int.mul_le_mul_of_nonneg_right ha.2 hb
  have h2 := Int.mul_le_mul_of_nonneg_right ha.1 hb
  have h3 := Int.mul_le_mul_of_nonneg_left hb' hA
  rw [Int.neg_mul] at h2
  omega
theorem rng_of {a B : Int} (h : 0 ≤ a ∧ a ≤ B) (hB : B ≤ 9223372036854775807) : -9223372036854775808 ≤ a ∧ a ≤ 9223372036854775807 := by omega
theorem rng_sub {a B : Int} (h : 0 ≤ a ∧ a ≤ B) (hB : B ≤ 9223372036854775807) : -9223372036854775808 ≤ a - 1 ∧ a - 1 ≤ 9223372036854775807 := by omega
def levelR (t : Th) (b : Int) : Bool := decide (t.ly.lo ≤ t.ry.hi + b) && decide (t.ry.lo ≤ t.ly.hi + b)
theorem levelR_eq {p : Pr} (hp : p.Ok) {t : Th} (ht : t.Ok) : levelR t p.tilt = levelS p t := by
  obtain ⟨⟨h1, h2, h3⟩, ⟨h4, h5, h6⟩, ⟨h7, h8, h9⟩, ⟨h10, h11, h12⟩⟩ := ht
  have t1 := hp.t1
  rw [Bool.eq_iff_iff]
  simp only [levelR, levelS, isB, nar, Bool.and_eq_true, decide_eq_true_eq, Int.max_le, Int.le_min]
  generalize p.tilt = b at *
  constructor
  · rintro ⟨h, h'⟩; refine ⟨⟨?_, ?_⟩, ?_, ?_⟩ <;> omega
  · rintro ⟨⟨h, h'⟩, h'', h'''⟩; refine ⟨?_, ?_⟩ <;> omega
def powersR (p : Pr) (t : Th) : Int × Int := if isB (shownS t) && levelS p t then powersS p t (shownS t) else (1, 0)
/-- A power of a thing that stands still: its shift can be shown. -/
theorem powersR_isB {p : Pr} {t : Th} {w : Int × Int} (h0 : 1 ≤ w.1) (h : isB (nar w (powersR p t)) = true) : isB (shownS t) = true ∧ levelS p t = true ∧ powersR p t = powersS p t (shownS t) := by
  unfold powersR at h ⊢
  split
  · rename_i h1; rw [Bool.and_eq_true] at h1; exact ⟨h1.1, h1.2, rfl⟩
  · rename_i h1; rw [if_neg h1] at h; have h2 : max w.1 1 ≤ min w.2 0 := of_decide_eq_true h; omega
def allL (p : Pr) (w : Int × Int) : List Th → Int × Int
  | [] => w
  | t :: l => if t.far = 0 then allL p w l else allL p (nar w (powersR p t)) l
theorem allL_append (p : Pr) : ∀ (l l2 : List Th) (w : Int × Int), allL p w (l ++ l2) = allL p (allL p w l) l2
  | [], _, _ => rfl
  | t :: l, l2, w => by simp only [List.cons_append, allL]; split <;> exact allL_append p l l2 _
theorem allL_step {p : Pr} {l : List Th} {w : Int × Int} {k : Nat} (hk : k < l.length) {t : Th} (ht : l[k] = t) : allL p w (l.take (k + 1)) = if t.far = 0 then allL p w (l.take k) else nar (allL p w (l.take k)) (powersR p t) := by
  rw [List.take_succ_eq_append_getElem hk, allL_append, ht]
  simp [allL]
def powers0 (p : Pr) : Int × Int := (p.focal.lo * p.base.lo, p.focal.hi * p.base.hi)
def allS (p : Pr) : Int × Int := allL p (powers0 p) p.things
/-- It only becomes narrower. -/
theorem nar_le (a b : Int × Int) : a.1 ≤ (nar a b).1 ∧ (nar a b).2 ≤ a.2 := by simp only [nar]; omega
theorem allL_le (p : Pr) : ∀ (l : List Th) (w : Int × Int), w.1 ≤ (allL p w l).1 ∧ (allL p w l).2 ≤ w.2
  | [], w => by simp [allL]
  | t :: l, w => by
    simp only [allL]
    split
    · exact allL_le p l w
    · have h1 := allL_le p l (nar w (powersR p t))
      have h2 := nar_le w (powersR p t)
      omega
theorem look_all (p : Pr) : ∀ (l : List Th) (w : Int × Int), w.1 ≤ w.2 → lookL p w l = if isB (allL p w l) then some (allL p w l) else none
  | [], w, h => by simp [lookL, allL, isB, h]
  | t :: l, w, h => by
    simp only [lookL, allL]
    split
    · exact look_all p l w h
    · unfold stillS powersR
      split
      · rename_i hc
        cases hb : isB (nar w (powersS p t (shownS t))) with
        | true => simp only [if_true]; exact look_all p l _ (by simpa [isB] using hb)
        | false =>
          simp only [Bool.false_eq_true, if_false]
          have h1 := allL_le p l (nar w (powersS p t (shownS t)))
          rw [if_neg]
          simp only [isB, decide_eq_false_iff_not, decide_eq_true_eq] at hb ⊢
          omega
      · simp only [Bool.false_eq_true, if_false]
        have h1 := allL_le p l (nar w (1, 0))
        rw [if_neg]
        have h2 : (nar w (1, 0)).1 ≥ 1 ∧ (nar w (1, 0)).2 ≤ 0 := by simp only [nar]; omega
        simp only [isB, decide_eq_true_eq]
        omega
theorem powers0_le {p : Pr} (hp : p.Ok) : (powers0 p).1 ≤ (powers0 p).2 ∧ 1 ≤ (powers0 p).1 ∧ (powers0 p).2 ≤ 500000000 := by
  have f1 := hp.f1
  have f2 := hp.f2
  have f3 := hp.f3
  have b1 := hp.b1
  have b2 := hp.b2
  have b3 := hp.b3
  have m2 := mul_bd (a := p.focal.hi) (b := p.base.hi) (A := 50000) (B := 10000) (by omega) (by omega) (by omega) (by omega)
  have m1 : 1 * 1 ≤ p.focal.lo * p.base.lo := Int.mul_le_mul f1 b1 (by omega) (by omega)
  have m3 : p.focal.lo * p.base.lo ≤ p.focal.hi * p.base.hi := Int.mul_le_mul f2 b2 (by omega) (by omega)
  simp only [powers0]
  omega
theorem lookX_eq {p : Pr} (hp : p.Ok) : lookX p = if isB (allS p) then .ok (allS p) else .error 4 := by
  have h := look_all p p.things (powers0 p) (powers0_le hp).1
  unfold lookX
  rw [show lookS p = lookL p (powers0 p) p.things from rfl, h]
  unfold allS
  split <;> rename_i h2 <;> split at h2 <;> simp_all
def thingR (p : Pr) (n : Int) : Bool := within n 0 ((p.things.length : Int) - 1)
theorem thingR_in {p : Pr} {n : Int} (h : thingR p n = true) : ∃ k : Nat, n = k ∧ k < p.things.length := by
  simp only [thingR, within, Bool.and_eq_true, decide_eq_true_eq] at h
  obtain ⟨k, rfl⟩ := Int.eq_ofNat_of_zero_le h.1
  exact ⟨k, rfl, by omega⟩
/-- open of the reference. -/
def openR (p : Pr) (valid : Bool) : (Int × Int) × Int := if isPair p then (if valid then (if isB (allS p) then (allS p, 0) else ((0, 0), 4)) else ((0, 0), 2)) else ((0, 0), 1)
theorem openR_ok {p : Pr} {v : Bool} (h : (openR p v).2 = 0) : isPair p = true ∧ v = true ∧ isB (allS p) = true ∧ (openR p v).1 = allS p := by
  unfold openR at h ⊢
  split
  · rename_i h1
    rw [if_pos h1] at h
    split
    · rename_i h2
      rw [if_pos h2] at h
      split
      · exact ⟨h1, h2, by assumption, rfl⟩
      · rename_i h3; rw [if_neg h3] at h; simp at h
    · rename_i h2; rw [if_neg h2] at h; simp at h
  · rename_i h1; rw [if_neg h1] at h; simp at h
theorem openR_bd {p : Pr} {v : Bool} {s : (Int × Int) × Int} (hs : openR p v = s) (h0 : s.2 = 0) : isPair p = true ∧ v = true ∧ s.1 = allS p ∧ 1 ≤ s.1.1 ∧ s.1.1 ≤ s.1.2 ∧ s.1.2 ≤ 500000000 := by
  subst hs
  obtain ⟨h1, h2, h3, h4⟩ := openR_ok h0
  have hp := isPair_ok h1
  have hb := powers0_le hp
  have hle := allL_le p p.things (powers0 p)
  rw [show allL p (powers0 p) p.things = allS p from rfl] at hle
  simp only [isB, decide_eq_true_eq] at h3
  rw [h4]
  exact ⟨h1, h2, rfl, by omega, by omega, by omega⟩
def whyR (p : Pr) (n : Int) : Int × Int :=
  let s := openR p (thingR p n)
  if s.2 ≠ 0 then (0, s.2) else
  let t := thingAt p n
  if isB (nar s.1 (powersR p t)) then (0, 0) else if !levelS p t then (1, 0) else if (shift t).2 < 0 then (2, 0) else if 2000 < (shift t).1 ∨ s.1.2 < (shift t).1 * p.near then (3, 0) else (4, 0)
def distR (p : Pr) (n : Int) : (Int × Int) × Int :=
  let s := openR p (thingR p n)
  if s.2 ≠ 0 then ((0, 0), s.2) else
  let t := thingAt p n
  if isB (nar s.1 (powersR p t)) then
    if t.far = 0 then ((max p.near (s.1.1 / ((shownS t).2 + 1) + 1), if 0 < (shownS t).1 then min p.far (s.1.2 / (shownS t).1) else p.far), 0)
    else ((t.far, t.far), 0)
  else ((0, 0), 11)
def shiftR (p : Pr) (n : Int) : (Int × Int) × Int := if isPair p then (if thingR p n then (shift (thingAt p n), 0) else ((0, 0), 2)) else ((0, 0), 1)
def nearerR (p : Pr) (a b : Int) : Int × Int := if isPair p then (if thingR p a && thingR p b then (nearerS (thingAt p a) (thingAt p b), 0) else (0, 2)) else (0, 1)
def powerR (p : Pr) : (Int × Int) × Int := openR p true
def standsR (p : Pr) (far : Int) : (Int × Int) × Int := let s := openR p (within far p.near p.far); if s.2 ≠ 0 then ((0, 0), s.2) else ((s.1.1 / far, s.1.2 / far), 0)
end Go.Pw1
/- Layer 1 in plain words: why, distance. -/
set_option linter.unusedSimpArgs false
set_option linter.unusedVariables false
namespace Go.Pw1
open Go Go.Eng
def whyS (p : Pr) (t : Th) (w : Int × Int) : Int :=
  if (stillS p t w).2 then 0 else 1 + idxF id [!levelS p t, decide ((shift t).2 < 0), decide (2000 < (shift t).1 ∨ w.2 < (shift t).1 * p.near), true]
def whyX (p : Pr) (n : Int) : Int × Int := match truthsX p [n] with | .error k => (0, k) | .ok w => (whyS p (thingAt p n) w, 0)
def distX (p : Pr) (n : Int) : (Int × Int) × Int :=
  match truthsX p [n] with
  | .error k => ((0, 0), k)
  | .ok w =>
    let t := thingAt p n
    if (stillS p t w).2 then
      if t.far ≠ 0 then ((t.far, t.far), 0) else (nar (p.near, p.far) (w.1 / ((shownS t).2 + 1) + 1, if 0 < (shownS t).1 then w.2 / (shownS t).1 else p.far), 0)
    else ((0, 0), 11)
theorem idxF_ge0 {α : Type} (f : α → Bool) (l : List α) : -1 ≤ idxF f l := idxF_ge f l
theorem idxF_lt {α : Type} (f : α → Bool) : ∀ l : List α, idxF f l < l.length ∨ idxF f l = -1
  | [] => by simp [idxF]
  | x :: l => by
    have h := idxF_lt f l
    unfold idxF
    split
    · left; simp only [List.length_cons]; omega
    · split
      · exact .inr rfl
      · left; simp only [List.length_cons]; omega
theorem truths_bd {p : Pr} {l : List Int} {w : Int × Int} (h : truthsX p l = .ok w) : p.Ok ∧ openX p l = .ok () ∧ 1 ≤ w.1 ∧ w.1 ≤ w.2 ∧ w.2 ≤ 500000000 := by
  obtain ⟨h1, h2⟩ := truthsX_ok h
  have hp := isPair_ok (openX_ok h1).1
  have h3 := look_bd hp (w := w) (by unfold lookX; rw [h2])
  exact ⟨hp, h1, h3⟩
theorem still_isB {p : Pr} {t : Th} {w : Int × Int} (h : (stillS p t w).2 = true) : isB (shownS t) = true ∧ levelS p t = true := by
  unfold stillS at h
  split at h
  · rename_i h1; rw [Bool.and_eq_true] at h1; exact h1
  · cases h
theorem div_rng2 {a b : Int} (h0 : 0 ≤ a) (h1 : a ≤ 1000000000000) (hb : 0 < b) : -9223372036854775808 ≤ a / b + 1 ∧ a / b + 1 ≤ 9223372036854775807 := by
  have h2 := Int.ediv_nonneg h0 (Int.le_of_lt hb)
  have h3 := Int.ediv_le_self b h0
  omega
end Go.Pw1
/- Layer 1 in plain words: sets of things, counted; and the fewest. -/
set_option linter.unusedSimpArgs false
set_option linter.unusedVariables false
namespace Go.Pw1
open Go Go.Eng
/-! ## Ones, counted -/
def oc1 (s : Nat) : Nat := (s >>> 1 &&& 6148914691236517205) + (s &&& 6148914691236517205)
def oc2 (s : Nat) : Nat := (oc1 s >>> 2 &&& 3689348814741910323) + (oc1 s &&& 3689348814741910323)
def oc3a (s : Nat) : Nat := oc2 s >>> 4 + oc2 s
def oc3 (s : Nat) : Nat := oc3a s &&& 1085102592571150095
def oc4 (s : Nat) : Nat := oc3 s + oc3 s >>> 8
def oc5 (s : Nat) : Nat := oc4 s + oc4 s >>> 16
def oc6 (s : Nat) : Nat := oc5 s + oc5 s >>> 32
def oc (s : Nat) : Nat := oc6 s &&& 127
theorem oc1_le (s : Nat) : oc1 s ≤ 2 * 6148914691236517205 := by have h1 := Nat.and_le_right (n := s >>> 1) (m := 6148914691236517205); have h2 := Nat.and_le_right (n := s) (m := 6148914691236517205); unfold oc1; omega
theorem oc2_le (s : Nat) : oc2 s ≤ 2 * 3689348814741910323 := by have h1 := Nat.and_le_right (n := oc1 s >>> 2) (m := 3689348814741910323); have h2 := Nat.and_le_right (n := oc1 s) (m := 3689348814741910323); unfold oc2; omega
theorem shr_le (n k : Nat) : n >>> k ≤ n / 2 ^ k := by rw [Nat.shiftRight_eq_div_pow]; exact Nat.le_refl _
theorem oc3a_le (s : Nat) : oc3a s ≤ 2 * 3689348814741910323 + 2 * 3689348814741910323 / 16 := by
  have h1 := oc2_le s
  have h2 := shr_le (oc2 s) 4
  unfold oc3a
  omega
theorem oc3_le (s : Nat) : oc3 s ≤ 1085102592571150095 := Nat.and_le_right
theorem oc4_le (s : Nat) : oc4 s ≤ 2 * 1085102592571150095 := by have h1 := oc3_le s; have h2 := Nat.shiftRight_le (oc3 s) 8; unfold oc4; omega
theorem oc5_le (s : Nat) : oc5 s ≤ 4 * 1085102592571150095 := by have h1 := oc4_le s; have h2 := Nat.shiftRight_le (oc4 s) 16; unfold oc5; omega
theorem oc6_le (s : Nat) : oc6 s ≤ 8 * 1085102592571150095 := by have h1 := oc5_le s; have h2 := Nat.shiftRight_le (oc5 s) 32; unfold oc6; omega
theorem oc_le (s : Nat) : oc s ≤ 127 := Nat.and_le_right
/-- The ones among the lowest bits. -/
def pc (s : Nat) : Nat → Nat
  | 0 => 0
  | k + 1 => pc s k + s / 2 ^ k % 2
theorem oc_all : (List.range 4096).all (fun s => oc s == pc s 12) = true := by kernel_rfl
theorem oc_eq {s : Nat} (h : s < 4096) : oc s = pc s 12 := by
  have := List.all_eq_true.1 oc_all s (List.mem_range.2 h)
  simpa using this
/-- The things that move, at a power. -/
def movedK (p : Pr) (x : Int) : Nat → Nat
  | 0 => 0
  | k + 1 => if (stillS p (thingAt p k) (x, x)).2 then movedK p x k else movedK p x k ||| 2 ^ k
def movedS (p : Pr) (x : Int) : Nat := movedK p x p.things.length
theorem movedK_lt (p : Pr) (x : Int) : ∀ k, movedK p x k < 2 ^ k
  | 0 => by simp [movedK]
  | k + 1 => by
    have h := movedK_lt p x k
    have h2 : 2 ^ k < 2 ^ (k + 1) := by rw [Nat.pow_succ]; have := Nat.two_pow_pos k; omega
    unfold movedK
    split
    · omega
    · exact Nat.or_lt_two_pow (by omega) h2
theorem movedS_lt {p : Pr} (hp : p.Ok) (x : Int) : movedS p x < 4096 := by
  have h := movedK_lt p x p.things.length
  have h2 : 2 ^ p.things.length ≤ 2 ^ 12 := Nat.pow_le_pow_right (by omega) hp.len
  unfold movedS
  omega
theorem movedK_lt4 {p : Pr} (hp : p.Ok) (x : Int) {k : Nat} (hk : k ≤ p.things.length) : movedK p x k < 4096 := by
  have h := movedK_lt p x k
  have h0 := hp.len
  have h2 : 2 ^ k ≤ 2 ^ 12 := Nat.pow_le_pow_right (by omega) (by omega)
  omega
theorem movedK_yes {p : Pr} {x : Int} {k : Nat} {t : Th} (ht : thingAt p k = t) (h : (stillS p t (x, x)).2 = true) : movedK p x (k + 1) = movedK p x k := by simp [movedK, ht, h]
theorem movedK_no {p : Pr} {x : Int} {k : Nat} {t : Th} (ht : thingAt p k = t) (h : (stillS p t (x, x)).2 = false) : movedK p x (k + 1) = movedK p x k ||| 2 ^ k := by simp [movedK, ht, h]
/-- The powers that are tried. -/
def triedK (p : Pr) (pw : Int × Int) : Nat → List Int
  | 0 => [pw.1]
  | k + 1 => if (stillS p (thingAt p k) pw).2 then triedK p pw k ++ [(stillS p (thingAt p k) pw).1.1] else triedK p pw k
def triedS (p : Pr) (pw : Int × Int) : List Int := triedK p pw p.things.length
theorem triedK_len (p : Pr) (pw : Int × Int) : ∀ k, (triedK p pw k).length ≤ k + 1
  | 0 => by simp [triedK]
  | k + 1 => by
    have := triedK_len p pw k
    unfold triedK
    split <;> (try simp only [List.length_append, List.length_singleton]) <;> omega
theorem triedK_yes {p : Pr} {pw : Int × Int} {k : Nat} {t : Th} (ht : thingAt p k = t) (h : (stillS p t pw).2 = true) : triedK p pw (k + 1) = triedK p pw k ++ [(stillS p t pw).1.1] := by simp [triedK, ht, h]
theorem triedK_no {p : Pr} {pw : Int × Int} {k : Nat} {t : Th} (ht : thingAt p k = t) (h : (stillS p t pw).2 = false) : triedK p pw (k + 1) = triedK p pw k := by simp [triedK, ht, h]
/-- The order of ranks; the least of some. -/
def befS (s u : Nat) : Bool := decide (pc s 12 < pc u 12) || (decide (pc s 12 = pc u 12) && decide (s < u))
def better (best s : Nat) : Nat := if s ≠ best ∧ befS best s = false then s else best
theorem better_yes {b s : Nat} (h : (¬((pc s 12 : Nat) : Int) = ((pc b 12 : Nat) : Int) ∨ ¬(s : Int) = (b : Int)) ∧ befS b s = false) : better b s = s := by
  have h1 : s ≠ b := by rintro rfl; simp at h
  unfold better
  rw [if_pos ⟨h1, h.2⟩]
theorem better_no {b s : Nat} (h : (((pc s 12 : Nat) : Int) = ((pc b 12 : Nat) : Int) ∧ (s : Int) = (b : Int)) ∨ befS b s = true) : better b s = b := by
  unfold better
  split
  · rename_i h2
    rcases h with h | h
    · omega
    · rw [h2.2] at h; cases h
  · rfl
def bestL (p : Pr) (s0 : Nat) (l : List Int) : Nat := l.foldl (fun best x => better best (movedS p x)) s0
theorem bestL_snoc (p : Pr) (s0 : Nat) (l : List Int) (x : Int) : bestL p s0 (l ++ [x]) = better (bestL p s0 l) (movedS p x) := by simp [bestL, List.foldl_append]
theorem bestL_lt {p : Pr} (hp : p.Ok) {s0 : Nat} (h : s0 < 4096) (l : List Int) : bestL p s0 l < 4096 := by
  induction l generalizing s0 with
  | nil => exact h
  | cons x l ih =>
    show bestL p (better s0 (movedS p x)) l < 4096
    refine ih ?_
    unfold better
    split
    · exact movedS_lt hp x
    · exact h
/-- The powers with which all still ones stand still. -/
def nbK (p : Pr) (s : Nat) (w : Int × Int) : Nat → Int × Int
  | 0 => w
  | k + 1 => if s >>> k &&& 1 = 0 then (stillS p (thingAt p k) (nbK p s w k)).1 else nbK p s w k
theorem nbK_in {p : Pr} {s : Nat} {w : Int × Int} {k : Nat} {t : Th} (ht : thingAt p k = t) (h : ((s >>> k &&& 1 : Nat) : Int) = 0) : nbK p s w (k + 1) = (stillS p t (nbK p s w k)).1 := by
  have h2 : s >>> k &&& 1 = 0 := by exact_mod_cast h
  simp only [nbK, h2, if_true, ht]
theorem nbK_out {p : Pr} {s : Nat} {w : Int × Int} {k : Nat} (h : ¬ ((s >>> k &&& 1 : Nat) : Int) = 0) : nbK p s w (k + 1) = nbK p s w k := by
  have h2 : ¬ s >>> k &&& 1 = 0 := fun e => h (by exact_mod_cast e)
  rw [nbK, if_neg h2]
def bestS (p : Pr) (w : Int × Int) : Nat := bestL p (movedS p w.1) (triedS p w)
def fewestX (p : Pr) : Int × (Int × Int) × Int :=
  match truthsX p [] with
  | .error k => (0, (0, 0), k)
  | .ok w => (bestS p w, nbK p (bestS p w) w p.things.length, 0)
end Go.Pw1
/- Layer 10: boxes, entries, pieces, and what the package's functions return, in plain terms. -/
set_option linter.unusedSimpArgs false
set_option linter.unusedVariables false
namespace Go.Hp
open Go Go.Eng Go.Pw1
abbrev Str := List UInt8
structure Bx where
  colour : Int
  titles : List Str
structure Tn where
  colour : Int
  number : Str
  text : Str
structure Mx where
  boxes : List Bx
  cards : List Tn
structure En where
  colour : Int
  number : Str
  title : Str
  deriving DecidableEq
def letterX (c : UInt8) : Bool := decide ((97 : Int) ≤ (c.toNat : Int)) && decide ((c.toNat : Int) ≤ 122)
def digitX (c : UInt8) : Bool := decide ((48 : Int) ≤ (c.toNat : Int)) && decide ((c.toNat : Int) ≤ 57)
def starX (c : UInt8) : Bool := decide ((c.toNat : Int) = 42)
def goodX (c : UInt8) : Bool := letterX c || digitX c || decide ((c.toNat : Int) = 63) || decide ((c.toNat : Int) = 42)
def pieceX (s : Str) : Bool := decide (s.length ≤ 12) && decide (s.countP goodX = s.length) && decide (s.countP starX ≤ 1)
def badTitle (s : Str) : Bool := !within s.length 1 12 || decide (s.countP letterX < s.length)
def badBox (b : Bx) : Bool := !within b.colour 1 9 || b.titles.any badTitle
def badCard (t : Tn) : Bool := !within t.colour 0 9 || !pieceX t.number || !pieceX t.text
def manyX (l : List Bx) : Nat := (l.map fun b => b.titles.length).sum
def mixedX (m : Mx) : Bool := decide (m.boxes.length ≤ 4) && decide (m.cards.length ≤ 8) && !m.boxes.any badBox && decide (manyX m.boxes ≤ 12) && !m.cards.any badCard
/-! ## Pieces -/
def suitsW : Str → Str → Bool
  | [], [] => true
  | a :: w, c :: s => (decide (a.toNat = 63) || decide (a = c)) && suitsW w s
  | _, _ => false
theorem suitsW_len : ∀ {w s : Str}, w.length ≠ s.length → suitsW w s = false
  | [], [], h => absurd rfl h
  | [], _ :: _, _ => rfl
  | _ :: _, [], _ => rfl
  | a :: w, c :: s, h => by
    unfold suitsW
    rw [suitsW_len (fun e => h (by simp [e])), Bool.and_false]
theorem suitsW_iff : ∀ {w s : Str}, suitsW w s = true ↔ w.length = s.length ∧ ∀ k (h : k < w.length) (h2 : k < s.length), w[k].toNat = 63 ∨ w[k] = s[k]
  | [], [] => by simp [suitsW]
  | [], _ :: _ => by simp [suitsW]
  | _ :: _, [] => by simp [suitsW]
  | a :: w, c :: s => by
    unfold suitsW
    rw [Bool.and_eq_true, Bool.or_eq_true, decide_eq_true_eq, decide_eq_true_eq, suitsW_iff]
    constructor
    · rintro ⟨h1, h2, h3⟩
      refine ⟨by simp [h2], fun k h h' => ?_⟩
      cases k with
      | zero => exact h1
      | succ k => exact h3 k (by simpa using h) (by simpa using h')
    · rintro ⟨h1, h2⟩
      refine ⟨h2 0 (by simp) (by simp), by simpa using h1, fun k h h' => ?_⟩
      have := h2 (k + 1) (by simpa using h) (by simpa using h')
      simpa using this
/-- Where the first star is. -/
def starAt : Str → Option Nat
  | [] => none
  | c :: s => if c.toNat = 42 then some 0 else (starAt s).map (· + 1)
def suitsE (h t s : Str) : Bool := decide (h.length + t.length ≤ s.length) && suitsW h (s.take h.length) && suitsW t (s.drop (s.length - t.length))
def suitsX (p s : Str) : Bool := match starAt p with
  | some i => suitsE (p.take i) (p.drop (i + 1)) s
  | none => suitsW p s
/-! ## Entries -/
def digit (n : Nat) : UInt8 := UInt8.ofNat (48 + n)
def itoa (n : Nat) : Str := if n < 10 then [digit n] else [digit (n / 10), digit (n % 10)]
def boxEn (c : Int) (i : Nat) : List Str → List En
  | [] => []
  | t :: l => ⟨c, itoa (i + 1), t⟩ :: boxEn c (i + 1) l
def entriesX (l : List Bx) : List En := l.flatMap fun b => boxEn b.colour 0 b.titles
theorem boxEn_snoc (c : Int) : ∀ (l : List Str) (i : Nat) (t : Str), boxEn c i (l ++ [t]) = boxEn c i l ++ [⟨c, itoa (i + l.length + 1), t⟩]
  | [], i, t => by simp [boxEn]
  | u :: l, i, t => by
    simp only [List.cons_append, boxEn, boxEn_snoc c l (i + 1) t, List.length_cons]
    rw [show i + 1 + l.length + 1 = i + (l.length + 1) + 1 by omega]
theorem boxEn_len (c : Int) : ∀ (l : List Str) (i : Nat), (boxEn c i l).length = l.length
  | [], _ => rfl
  | _ :: l, i => by simp [boxEn, boxEn_len c l]
theorem entries_len : ∀ l : List Bx, (entriesX l).length = manyX l
  | [] => rfl
  | b :: l => by
    have := entries_len l
    simp only [entriesX, List.flatMap_cons, List.length_append, boxEn_len, manyX, List.map_cons, List.sum_cons] at this ⊢
    omega
theorem entries_snoc (l : List Bx) (b : Bx) : entriesX (l ++ [b]) = entriesX l ++ boxEn b.colour 0 b.titles := by simp [entriesX]
/-! ## What a card fits -/
def fitX (t : Tn) (x : En) : Bool := (decide (t.colour = 0) || decide (t.colour = x.colour)) && suitsX t.number x.number && suitsX t.text x.title
def fitsL (t : Tn) : Nat → List En → Nat
  | _, [] => 0
  | i, x :: l => (if fitX t x then 2 ^ i else 0) ||| fitsL t (i + 1) l
def fitsX (m : Mx) (t : Tn) : Nat := fitsL t 0 (entriesX m.boxes)
theorem fitsL_bit (t : Tn) : ∀ (l : List En) (i k : Nat), (fitsL t i l).testBit k = (decide (i ≤ k) && (l[k - i]?.any (fitX t)))
  | [], i, k => by simp [fitsL]
  | x :: l, i, k => by
    unfold fitsL
    rw [Nat.testBit_or, fitsL_bit t l (i + 1) k]
    by_cases h1 : i = k
    · subst h1
      have h2 : ¬ i + 1 ≤ i := by omega
      cases hf : fitX t x <;> simp [h2, hf, Nat.testBit_two_pow]
    · by_cases h2 : i ≤ k
      · have h3 : i + 1 ≤ k := by omega
        have h4 : k - i = (k - (i + 1)) + 1 := by omega
        have h5 : (if fitX t x = true then 2 ^ i else 0).testBit k = false := by
          split
          · rw [Nat.testBit_two_pow]; simp [h1]
          · simp
        simp [h2, h3, h4, h5]
      · have h3 : ¬ i + 1 ≤ k := by omega
        have h5 : (if fitX t x = true then 2 ^ i else 0).testBit k = false := by
          split
          · rw [Nat.testBit_two_pow]; simp [h1]
          · simp
        simp [h2, h3, h5]
theorem fitsL_snoc (t : Tn) : ∀ (l : List En) (i : Nat) (x : En), fitsL t i (l ++ [x]) = fitsL t i l ||| (if fitX t x then 2 ^ (i + l.length) else 0)
  | [], i, x => by simp [fitsL]
  | y :: l, i, x => by
    simp only [List.cons_append, fitsL, fitsL_snoc t l (i + 1) x, List.length_cons]
    rw [show i + 1 + l.length = i + (l.length + 1) by omega, Nat.or_assoc]
theorem fitsL_lt (t : Tn) (l : List En) : ∀ i, fitsL t i l < 2 ^ (i + l.length) := by
  induction l with
  | nil => intro i; exact Nat.two_pow_pos _
  | cons x l ih =>
    intro i
    unfold fitsL
    have h1 := ih (i + 1)
    rw [show i + 1 + l.length = i + (x :: l).length by simp; omega] at h1
    refine Nat.or_lt_two_pow ?_ h1
    split
    · exact Nat.pow_lt_pow_right (by decide) (by simp)
    · exact Nat.two_pow_pos _
theorem fits_bit (m : Mx) (t : Tn) (k : Nat) : (fitsX m t).testBit k = ((entriesX m.boxes)[k]?.any (fitX t)) := by
  unfold fitsX
  rw [fitsL_bit]
  simp
/-! ## The functions -/
def fsX (m : Mx) : List Nat := m.cards.map (fitsX m)
def neX (m : Mx) : Nat := (entriesX m.boxes).length
def cntX (m : Mx) : Nat := cntL (neX m) (fsX m) 0
def cardX (m : Mx) (c : Int) : Bool := within c 0 ((m.cards.length : Int) - 1)
def entryX (m : Mx) (e : Int) : Bool := within e 0 ((neX m : Int) - 1)
def FitsX (m : Mx) (c : Int) : Int × Int := if mixedX m then (if cardX m c then ((((fsX m).getD c.toNat 0 : Nat) : Int), 0) else (0, 2)) else (0, 1)
def CountX (m : Mx) : Int × Int := if mixedX m then ((cntX m : Int), 0) else (0, 1)
def ShareX (m : Mx) (c e : Int) : Int × Int := if mixedX m then (if cardX m c && entryX m e then ((shareL (neX m) (fsX m) c.toNat e.toNat : Int), 0) else (0, 2)) else (0, 1)
def waysE (m : Mx) : Int := if mixedX m then (if cntX m = 0 then 4 else 0) else 1
def FirstX (m : Mx) : List Int × Int := if waysE m = 0 then ((firstL (neX m) (fsX m) 0).map fun (x : Nat) => (x : Int), 0) else ([], waysE m)
/-- The last one that is so. -/
def lastP (p : Nat → Bool) : Nat → Int
  | 0 => -1
  | n + 1 => if p n then (n : Int) else lastP p n
def sureP (m : Mx) (c e : Nat) : Bool := decide (shareL (neX m) (fsX m) c e = cntX m)
def sureC (m : Mx) (c : Nat) : Int := lastP (sureP m c) (neX m)
def SureX (m : Mx) : List Int × Int := if waysE m = 0 then ((List.range m.cards.length).map (sureC m), 0) else ([], waysE m)
def setOf (p : Nat → Bool) : Nat → Nat
  | 0 => 0
  | n + 1 => if p n then setOf p n ||| 2 ^ n else setOf p n
theorem setOf_bit (p : Nat → Bool) : ∀ n k, (setOf p n).testBit k = (decide (k < n) && p k)
  | 0, k => by simp [setOf]
  | n + 1, k => by
    unfold setOf
    have ih := setOf_bit p n k
    by_cases h : p n = true
    · rw [if_pos h, Nat.testBit_or, Nat.testBit_two_pow, ih]
      by_cases hk : n = k
      · subst hk; simp [h]
      · have h2 : (k < n + 1) ↔ k < n := by omega
        simp [hk, h2]
    · rw [if_neg h, ih]
      by_cases hk : k = n
      · subst hk; simp [h]
      · have h2 : (k < n + 1) ↔ k < n := by omega
        simp [h2]
theorem setOf_lt (p : Nat → Bool) : ∀ n, setOf p n < 2 ^ n
  | 0 => by simp [setOf]
  | n + 1 => by
    have ih := setOf_lt p n
    have h2 : 2 ^ n < 2 ^ (n + 1) := Nat.pow_lt_pow_right (by decide) (by omega)
    unfold setOf
    split
    · exact Nat.or_lt_two_pow (by omega) h2
    · omega
def lostX (m : Mx) : Nat := setOf (fun e => decide (usedL (neX m) (fsX m) e = 0)) (neX m)
def canX (m : Mx) : Nat := setOf (fun e => decide (usedL (neX m) (fsX m) e < cntX m)) (neX m)
def LostX (m : Mx) : (Int × Int) × Int := if waysE m = 0 then (((lostX m : Int), (canX m : Int)), 0) else ((0, 0), waysE m)
/-! ### Cards that have too few entries -/
def unionL (s : Nat) : Nat → List Nat → Nat
  | _, [] => 0
  | i, f :: l => (if s.testBit i then f else 0) ||| unionL s (i + 1) l
def shortX (fs : List Nat) (s : Nat) : Bool := decide (pc (unionL s 0 fs) 12 < pc s 12)
def setsL (n : Nat) : List Nat := ((List.range n).map (· + 1)).flatMap fun k => ((List.range (2 ^ n)).filter fun s => decide (0 < s) && decide (pc s 12 = k))
def whyL (fs : List Nat) : Option Nat := (setsL fs.length).find? (shortX fs)
def WhyX (m : Mx) : Int × Int := if mixedX m then (match whyL (fsX m) with | some s => ((s : Int), 11) | none => (0, 0)) else (0, 1)
end Go.Hp
/- The facts on the tables of types and on the entries of functions that the walks use. Written by program. -/
set_option linter.unusedSimpArgs false
set_option linter.unusedVariables false
namespace Go.Proofs.YtlhdalcipflblaaDoor
open Go Go.Eng
theorem ent_104 : Enters Tryd.prog 104 := enters_of Tryd.func104 (by kernel_rfl) rfl
theorem ent_107 : Enters Tryd.prog 107 := enters_of Tryd.func107 (by kernel_rfl) rfl
theorem ent_128 : Enters Tryd.prog 128 := enters_of Tryd.func128 (by kernel_rfl) rfl
theorem ent_53 : Enters Tryd.prog 53 := enters_of Tryd.func53 (by kernel_rfl) rfl
theorem ent_72 : Enters Tryd.prog 72 := enters_of Tryd.func72 (by kernel_rfl) rfl
theorem ent_73 : Enters Tryd.prog 73 := enters_of Tryd.func73 (by kernel_rfl) rfl
theorem ent_77 : Enters Tryd.prog 77 := enters_of Tryd.func77 (by kernel_rfl) rfl
theorem ent_87 : Enters Tryd.prog 87 := enters_of Tryd.func87 (by kernel_rfl) rfl
theorem ent_88 : Enters Tryd.prog 88 := enters_of Tryd.func88 (by kernel_rfl) rfl
theorem ent_89 : Enters Tryd.prog 89 := enters_of Tryd.func89 (by kernel_rfl) rfl
theorem ent_93 : Enters Tryd.prog 93 := enters_of Tryd.func93 (by kernel_rfl) rfl
theorem ent_98 : Enters Tryd.prog 98 := enters_of Tryd.func98 (by kernel_rfl) rfl
theorem fld_131_0 : fieldB Tryd.prog 131 0 = some 0 := by kernel_rfl
theorem fld_131_1 : fieldB Tryd.prog 131 1 = some 1 := by kernel_rfl
theorem fld_50_0 : fieldB Tryd.prog 50 0 = some 0 := by kernel_rfl
theorem fld_50_1 : fieldB Tryd.prog 50 1 = some 1 := by kernel_rfl
theorem fld_50_2 : fieldB Tryd.prog 50 2 = some 2 := by kernel_rfl
theorem fol_ : Tryd.prog.follows .mixedOrders = true := by kernel_rfl
theorem noif_129 : (Tryd.prog.underlying 129).any (fun t => match t with | .interface _ => false | _ => true) = true := by kernel_rfl
theorem noif_131 : (Tryd.prog.underlying 131).any (fun t => match t with | .interface _ => false | _ => true) = true := by kernel_rfl
theorem places_131 : placesB Tryd.prog 131 = some [(0, 1), (1, 1)] := by kernel_rfl
theorem sl_47 : slB Tryd.prog 47 = some (5, 1) := by kernel_rfl
theorem sls_47 : Tryd.prog.underlying 47 = some (.slice 5) := by kernel_rfl
theorem ty_129 : tyB Tryd.prog 129 = some (false, 1) := by kernel_rfl
theorem ty_3 : tyB Tryd.prog 3 = some (false, 1) := by kernel_rfl
theorem ty_5 : tyB Tryd.prog 5 = some (false, 1) := by kernel_rfl
theorem ty_9 : tyB Tryd.prog 9 = some (false, 1) := by kernel_rfl
theorem und_129 : Tryd.prog.underlying 129 = some (.string) := by kernel_rfl
theorem und_5 : Tryd.prog.underlying 5 = some (.int .u8) := by kernel_rfl
theorem und_9 : Tryd.prog.underlying 9 = some (.string) := by kernel_rfl
theorem zero_131 : zeroB Tryd.prog 131 = some [.string ⟨#[]⟩, .string ⟨#[]⟩] := by kernel_rfl
end Go.Proofs.YtlhdalcipflblaaDoor
/- Walks of package heap: bytes, pieces, boxes. -/
set_option linter.unusedSimpArgs false
set_option linter.unusedVariables false
namespace Go.Hp
open Go Go.Eng Go.Pw1
def bytesV (l : Str) : List (List Value) := l.map fun c => [byteV c]
def strsV (l : List Str) : List (List Value) := l.map fun s => [.string (bs s)]
theorem take_count {α : Type} {f : α → Bool} {l : List α} {k : Nat} (hk : k < l.length) : (l.take (k + 1)).countP f = (l.take k).countP f + if f l[k] then 1 else 0 := by
  rw [List.take_succ_eq_append_getElem hk, List.countP_append]
  simp [List.countP_cons]
/-- A box, and where its titles lie. -/
structure BxA where
  bx : Bx
  q : Option Addr
  b : Nat
  o : Nat
  cap : Nat
def BxA.cells (x : BxA) : List Value := [.int .i64 x.bx.colour, .slice x.q x.bx.titles.length x.cap]
def Tn.cells (t : Tn) : List Value := [.int .i64 t.colour, .string (bs t.number), .string (bs t.text)]
def En.cells (t : En) : List Value := [.int .i64 t.colour, .string (bs t.number), .string (bs t.title)]
/-- Boxes with a heap, and where they lie. -/
structure MxA where
  bxs : List BxA
  q : Option Addr
  b : Nat
  o : Nat
  cap : Nat
  cards : List Tn
  q2 : Option Addr
  b2 : Nat
  o2 : Nat
  cap2 : Nat
def MxA.cells (m : MxA) : List Value := [.slice m.q m.bxs.length m.cap, .slice m.q2 m.cards.length m.cap2]
def MxA.v (m : MxA) : Value := .agg m.cells.toArray
def MxA.pl (m : MxA) : Mx := ⟨m.bxs.map (·.bx), m.cards⟩
def TOk (W : World) (x : BxA) : Prop := Sl W x.q x.b x.o 1 (strsV x.bx.titles)
structure MOk (W : World) (m : MxA) : Prop where
  bx : Sl W m.q m.b m.o 2 (m.bxs.map BxA.cells)
  ti : ∀ x ∈ m.bxs, TOk W x
  cd : Sl W m.q2 m.b2 m.o2 3 (m.cards.map Tn.cells)
theorem MOk.mono0 {W w : World} {m : MxA} {news : Blks} (h : MOk W m) (hm : Mem W [] news w) : MOk w m :=
  ⟨h.bx.mono (by decide) hm (by simp), fun x hx => (h.ti x hx).mono (by decide) hm (by simp), h.cd.mono (by decide) hm (by simp)⟩
/-- Nothing is far too long. -/
structure Small (m : Mx) : Prop where
  bx : m.boxes.length ≤ 1000
  cd : m.cards.length ≤ 1000
  ti : ∀ b ∈ m.boxes, b.titles.length ≤ 1000
  tx : ∀ b ∈ m.boxes, ∀ t ∈ b.titles, t.length ≤ 1000000
  nu : ∀ t ∈ m.cards, t.number.length ≤ 1000000 ∧ t.text.length ≤ 1000000
end Go.Hp
namespace Go.Proofs.YtlhdalcipflblaaDoor
open Go Go.Eng Go.Hp Go.Pw1

theorem hwithin_calls (n lo hi : Int) (W : World) : Calls Tryd.prog 53 #[.int .i64 n, .int .i64 lo, .int .i64 hi] W (Pure (.bool (within n lo hi)) W) := by
  refine calls_start Tryd.func53 rfl rfl ?_
  refine RunC.seq ?_
  refine RunC.region ?_
  refine RunL.val (Val.pure rfl) rfl rfl rfl ?_
  refine RunL.nil ?_
  refine RunE.next ?_
  refine RunC.seq ?_
  refine RunC.region ?_
  iterate 4 refine RunL.val (Val.pure rfl) rfl rfl rfl ?_
  refine RunL.andPart (dj := 10) (dp := 14) 4 rfl (fun g10 => by
    have g10' := g10
    try simp only [decide_eq_true_eq, decide_eq_false_iff_not, Bool.not_eq_true', Bool.not_eq_false', Bool.and_eq_true, Bool.or_eq_true, Bool.and_eq_false_iff, Bool.or_eq_false_iff, Int.not_le, Int.not_lt] at g10'
    iterate 4 refine RunL.val (Val.pure rfl) rfl rfl rfl ?_
    exact RunL.segEnd (Sub.cons rfl (Sub.skip rfl (Sub.skip rfl (Sub.skip rfl (Sub.skip rfl (Sub.same rfl (by rw [g10]) (Sub.refl _))))))) (List.Sublist.refl _)
  ) (fun g10 => by
    have g10' := g10
    try simp only [decide_eq_true_eq, decide_eq_false_iff_not, Bool.not_eq_true', Bool.not_eq_false', Bool.and_eq_true, Bool.or_eq_true, Bool.and_eq_false_iff, Bool.or_eq_false_iff, Int.not_le, Int.not_lt] at g10'
    iterate 3 refine RunL.no rfl rfl rfl ?_
    refine RunL.val (Val.pure rfl) rfl rfl rfl ?_
    exact RunL.segEnd (Sub.cons rfl (Sub.skip rfl (Sub.skip rfl (Sub.skip rfl (Sub.skip rfl (Sub.same rfl (by rw [g10]) (Sub.refl _))))))) (List.Sublist.refl _)
  ) ?_
  refine RunL.val (Val.pure rfl) rfl rfl rfl ?_
  refine RunL.nil ?_
  refine RunE.next ?_
  refine RunC.ret ?_
  exact RunE.retP (.r1 rfl (.tmp rfl)) (by first | rfl | simp)
theorem letter_calls (c : UInt8) (W : World) : Calls Tryd.prog 73 #[byteV c] W (Pure (.bool (letterX c)) W) := by
  refine calls_start Tryd.func73 rfl rfl ?_
  refine RunC.seq ?_
  refine RunC.region ?_
  refine RunL.val (Val.pure rfl) rfl rfl rfl ?_
  refine RunL.nil ?_
  refine RunE.next ?_
  refine RunC.seq ?_
  refine RunC.region ?_
  iterate 3 refine RunL.val (Val.pure rfl) rfl rfl rfl ?_
  refine RunL.andPart (dj := 5) (dp := 8) 3 rfl (fun g5 => by
    have g5' := g5
    try simp only [decide_eq_true_eq, decide_eq_false_iff_not, Bool.not_eq_true', Bool.not_eq_false', Bool.and_eq_true, Bool.or_eq_true, Bool.and_eq_false_iff, Bool.or_eq_false_iff, Int.not_le, Int.not_lt] at g5'
    iterate 3 refine RunL.val (Val.pure rfl) rfl rfl rfl ?_
    exact RunL.segEnd (Sub.cons rfl (Sub.skip rfl (Sub.skip rfl (Sub.skip rfl (Sub.same rfl (by rw [g5]) (Sub.refl _)))))) (List.Sublist.refl _)
  ) (fun g5 => by
    have g5' := g5
    try simp only [decide_eq_true_eq, decide_eq_false_iff_not, Bool.not_eq_true', Bool.not_eq_false', Bool.and_eq_true, Bool.or_eq_true, Bool.and_eq_false_iff, Bool.or_eq_false_iff, Int.not_le, Int.not_lt] at g5'
    refine RunL.no rfl rfl rfl ?_
    refine RunL.no rfl rfl rfl ?_
    refine RunL.val (Val.pure rfl) rfl rfl rfl ?_
    exact RunL.segEnd (Sub.cons rfl (Sub.skip rfl (Sub.skip rfl (Sub.skip rfl (Sub.same rfl (by rw [g5]) (Sub.refl _)))))) (List.Sublist.refl _)
  ) ?_
  refine RunL.val (Val.pure rfl) rfl rfl rfl ?_
  refine RunL.nil ?_
  refine RunE.next ?_
  refine RunC.ret ?_
  exact RunE.retP (.r1 rfl (.tmp rfl)) (by first | rfl | simp)
theorem digit_calls (c : UInt8) (W : World) : Calls Tryd.prog 89 #[byteV c] W (Pure (.bool (digitX c)) W) := by
  refine calls_start Tryd.func89 rfl rfl ?_
  refine RunC.seq ?_
  refine RunC.region ?_
  refine RunL.val (Val.pure rfl) rfl rfl rfl ?_
  refine RunL.nil ?_
  refine RunE.next ?_
  refine RunC.seq ?_
  refine RunC.region ?_
  iterate 3 refine RunL.val (Val.pure rfl) rfl rfl rfl ?_
  refine RunL.andPart (dj := 5) (dp := 8) 3 rfl (fun g5 => by
    have g5' := g5
    try simp only [decide_eq_true_eq, decide_eq_false_iff_not, Bool.not_eq_true', Bool.not_eq_false', Bool.and_eq_true, Bool.or_eq_true, Bool.and_eq_false_iff, Bool.or_eq_false_iff, Int.not_le, Int.not_lt] at g5'
    iterate 3 refine RunL.val (Val.pure rfl) rfl rfl rfl ?_
    exact RunL.segEnd (Sub.cons rfl (Sub.skip rfl (Sub.skip rfl (Sub.skip rfl (Sub.same rfl (by rw [g5]) (Sub.refl _)))))) (List.Sublist.refl _)
  ) (fun g5 => by
    have g5' := g5
    try simp only [decide_eq_true_eq, decide_eq_false_iff_not, Bool.not_eq_true', Bool.not_eq_false', Bool.and_eq_true, Bool.or_eq_true, Bool.and_eq_false_iff, Bool.or_eq_false_iff, Int.not_le, Int.not_lt] at g5'
    refine RunL.no rfl rfl rfl ?_
    refine RunL.no rfl rfl rfl ?_
    refine RunL.val (Val.pure rfl) rfl rfl rfl ?_
    exact RunL.segEnd (Sub.cons rfl (Sub.skip rfl (Sub.skip rfl (Sub.skip rfl (Sub.same rfl (by rw [g5]) (Sub.refl _)))))) (List.Sublist.refl _)
  ) ?_
  refine RunL.val (Val.pure rfl) rfl rfl rfl ?_
  refine RunL.nil ?_
  refine RunE.next ?_
  refine RunC.ret ?_
  exact RunE.retP (.r1 rfl (.tmp rfl)) (by first | rfl | simp)
theorem star_calls (c : UInt8) (W : World) : Calls Tryd.prog 87 #[byteV c] W (Pure (.bool (starX c)) W) := by
  refine calls_start Tryd.func87 rfl rfl ?_
  refine RunC.seq ?_
  refine RunC.region ?_
  refine RunL.val (Val.pure rfl) rfl rfl rfl ?_
  refine RunL.nil ?_
  refine RunE.next ?_
  refine RunC.seq ?_
  refine RunC.region ?_
  iterate 3 refine RunL.val (Val.pure rfl) rfl rfl rfl ?_
  refine RunL.nil ?_
  refine RunE.next ?_
  refine RunC.ret ?_
  exact RunE.retP (.r1 rfl (.tmp rfl)) (by first | rfl | simp)
theorem good_calls (c : UInt8) (W : World) : Calls Tryd.prog 88 #[byteV c] W (Pure (.bool (goodX c)) W) := by
  refine calls_start Tryd.func88 rfl rfl ?_
  refine RunC.seq ?_
  refine RunC.region ?_
  refine RunL.val (Val.pure rfl) rfl rfl rfl ?_
  refine RunL.nil ?_
  refine RunE.next ?_
  refine RunC.seq ?_
  refine RunC.region ?_
  refine RunL.val (Val.pure rfl) rfl rfl rfl ?_
  refine RunL.callP (isCall_func rfl ent_73) rfl rfl rfl (fun w hm => letter_calls _ w) ?_
  refine RunL.val (Val.pure rfl) rfl rfl rfl ?_
  refine RunL.orPart (dj := 5) (dp := 8) 3 rfl (fun g5 => by
    have g5' := g5
    try simp only [decide_eq_true_eq, decide_eq_false_iff_not, Bool.not_eq_true', Bool.not_eq_false', Bool.and_eq_true, Bool.or_eq_true, Bool.and_eq_false_iff, Bool.or_eq_false_iff, Int.not_le, Int.not_lt] at g5'
    refine RunL.val (Val.pure rfl) rfl rfl rfl ?_
    refine RunL.callP (isCall_func rfl ent_89) rfl rfl rfl (fun w hm => digit_calls _ w) ?_
    refine RunL.val (Val.pure rfl) rfl rfl rfl ?_
    exact RunL.segEnd (Sub.cons rfl (Sub.skip rfl (Sub.skip rfl (Sub.skip rfl (Sub.same rfl (by rw [g5]) (Sub.refl _)))))) (List.Sublist.refl _)
  ) (fun g5 => by
    have g5' := g5
    try simp only [decide_eq_true_eq, decide_eq_false_iff_not, Bool.not_eq_true', Bool.not_eq_false', Bool.and_eq_true, Bool.or_eq_true, Bool.and_eq_false_iff, Bool.or_eq_false_iff, Int.not_le, Int.not_lt] at g5'
    refine RunL.no rfl rfl rfl ?_
    refine RunL.no rfl rfl rfl ?_
    refine RunL.val (Val.pure rfl) rfl rfl rfl ?_
    exact RunL.segEnd (Sub.cons rfl (Sub.skip rfl (Sub.skip rfl (Sub.skip rfl (Sub.same rfl (by rw [g5]) (Sub.refl _)))))) (List.Sublist.refl _)
  ) ?_
  refine RunL.val (Val.pure rfl) rfl rfl rfl ?_
  refine RunL.orPart (dj := 9) (dp := 12) 3 rfl (fun g9 => by
    have g9' := g9
    try simp only [decide_eq_true_eq, decide_eq_false_iff_not, Bool.not_eq_true', Bool.not_eq_false', Bool.and_eq_true, Bool.or_eq_true, Bool.and_eq_false_iff, Bool.or_eq_false_iff, Int.not_le, Int.not_lt] at g9'
    iterate 3 refine RunL.val (Val.pure rfl) rfl rfl rfl ?_
    exact RunL.segEnd (Sub.cons rfl (Sub.skip rfl (Sub.skip rfl (Sub.skip rfl (Sub.same rfl (by rw [g9]) (Sub.refl _)))))) (List.Sublist.refl _)
  ) (fun g9 => by
    have g9' := g9
    try simp only [decide_eq_true_eq, decide_eq_false_iff_not, Bool.not_eq_true', Bool.not_eq_false', Bool.and_eq_true, Bool.or_eq_true, Bool.and_eq_false_iff, Bool.or_eq_false_iff, Int.not_le, Int.not_lt] at g9'
    refine RunL.no rfl rfl rfl ?_
    refine RunL.no rfl rfl rfl ?_
    refine RunL.val (Val.pure rfl) rfl rfl rfl ?_
    exact RunL.segEnd (Sub.cons rfl (Sub.skip rfl (Sub.skip rfl (Sub.skip rfl (Sub.same rfl (by rw [g9]) (Sub.refl _)))))) (List.Sublist.refl _)
  ) ?_
  refine RunL.val (Val.pure rfl) rfl rfl rfl ?_
  refine RunL.orPart (dj := 13) (dp := 16) 3 rfl (fun g13 => by
    have g13' := g13
    try simp only [decide_eq_true_eq, decide_eq_false_iff_not, Bool.not_eq_true', Bool.not_eq_false', Bool.and_eq_true, Bool.or_eq_true, Bool.and_eq_false_iff, Bool.or_eq_false_iff, Int.not_le, Int.not_lt] at g13'
    iterate 3 refine RunL.val (Val.pure rfl) rfl rfl rfl ?_
    exact RunL.segEnd (Sub.cons rfl (Sub.skip rfl (Sub.skip rfl (Sub.skip rfl (Sub.same rfl (by rw [g13]) (Sub.refl _)))))) (List.Sublist.refl _)
  ) (fun g13 => by
    have g13' := g13
    try simp only [decide_eq_true_eq, decide_eq_false_iff_not, Bool.not_eq_true', Bool.not_eq_false', Bool.and_eq_true, Bool.or_eq_true, Bool.and_eq_false_iff, Bool.or_eq_false_iff, Int.not_le, Int.not_lt] at g13'
    refine RunL.no rfl rfl rfl ?_
    refine RunL.no rfl rfl rfl ?_
    refine RunL.val (Val.pure rfl) rfl rfl rfl ?_
    exact RunL.segEnd (Sub.cons rfl (Sub.skip rfl (Sub.skip rfl (Sub.skip rfl (Sub.same rfl (by rw [g13]) (Sub.refl _)))))) (List.Sublist.refl _)
  ) ?_
  refine RunL.val (Val.pure rfl) rfl rfl rfl ?_
  refine RunL.nil ?_
  refine RunE.next ?_
  refine RunC.ret ?_
  exact RunE.retP (.r1 rfl (.tmp rfl)) (by first | rfl | simp)
theorem counted_calls (f : UInt8 → Bool) (l : Str) (q : Option Addr) (b o cap : Nat) (fn : FuncId) (W : World) (hS : Sl W q b o 1 (bytesV l)) (hl : l.length ≤ 100000000000) (he : Enters Tryd.prog fn)
    (hf : ∀ c w, Calls Tryd.prog fn #[byteV c] w (Pure (.bool (f c)) w)) :
    Calls Tryd.prog 72 #[.slice q l.length cap, .func (.func fn) #[] #[]] W (Pure (.int .i64 ((l.countP f : Nat) : Int)) W) := by
  refine calls_start Tryd.func72 rfl rfl ?_
  refine RunC.seq ?_
  refine RunC.region ?_
  refine RunL.val (Val.pure rfl) rfl rfl rfl ?_
  refine RunL.nil ?_
  refine RunE.next ?_
  refine RunC.seq ?_
  refine RunC.seq ?_
  refine RunC.region ?_
  refine RunL.val (Val.pure rfl) rfl rfl rfl ?_
  refine RunL.val (Val.len_sl rfl sl_47) rfl rfl rfl ?_
  refine RunL.val (Val.pure rfl) rfl rfl rfl ?_
  refine RunL.nil ?_
  refine RunE.next ?_
  refine RunC.block ?_
  refine RunC.loopK (l.length) (fun k q => (9, .int .i64 (k : Int)) :: (4, .int .i64 (((l.take k).countP f : Nat) : Int)) :: q) (fun _ => _) (fun _ => []) (fun _ => True) trivial rfl (Sub.consE (t := 9) rfl rfl (Sub.consE (t := 4) rfl rfl (Sub.cons (t := 0) rfl (Sub.cons (t := 1) rfl (Sub.cons (t := 7) rfl (Sub.cons (t := 8) rfl (Sub.nil _))))))) .nil ?_
  intro k kN kI
  clear kI
  refine RunC.seq ?_
  refine RunC.region ?_
  refine RunL.val (Val.pure rfl) rfl rfl rfl ?_
  refine RunL.nil ?_
  refine RunE.next ?_
  refine RunC.seq ?_
  refine RunC.cond rfl ?_ ?_
  · intro c0
    have c0' := c0; clear c0
    try simp only [decide_eq_true_eq, decide_eq_false_iff_not, Bool.not_eq_true', Bool.not_eq_false', Bool.and_eq_true, Bool.or_eq_true, Bool.and_eq_false_iff, Bool.or_eq_false_iff, Int.not_le, Int.not_lt] at c0'
    have hk : k < l.length := by omega
    have hcl := List.countP_le_length (p := f) (l := l.take k)
    rw [List.length_take] at hcl
    refine RunC.skip ?_
    refine RunE.next ?_
    refine RunC.seq ?_
    refine RunC.block ?_
    refine RunC.seq ?_
    refine RunC.region ?_
    refine RunL.val (Val.indexAddr_slp rfl rfl sl_47 (by omega) (by omega) (hS.ptrM hk)) rfl rfl rfl ?_
    refine RunL.val (Val.load_gen rfl (fun w hm => hS.loadM1 (by decide) hm (by simp) ty_5 hk (v := byteV l[k]) rfl)) rfl rfl rfl ?_
    refine RunL.val (Val.pure rfl) rfl rfl rfl ?_
    refine RunL.nil ?_
    refine RunE.next ?_
    refine RunC.seq ?_
    refine RunC.region ?_
    refine RunL.val (Val.pure rfl) rfl rfl rfl ?_
    refine RunL.val (Val.pure rfl) rfl rfl rfl ?_
    refine RunL.callP (isCall_value rfl rfl he) rfl rfl rfl (fun w hm => hf _ w) ?_
    refine RunL.nil ?_
    refine RunE.next ?_
    refine RunC.cond rfl ?_ ?_
    · intro c1
      have c1' := c1; clear c1
      try simp only [decide_eq_true_eq, decide_eq_false_iff_not, Bool.not_eq_true', Bool.not_eq_false', Bool.and_eq_true, Bool.or_eq_true, Bool.and_eq_false_iff, Bool.or_eq_false_iff, Int.not_le, Int.not_lt] at c1'
      refine RunC.region ?_
      refine RunL.val (Val.pure rfl) rfl rfl rfl ?_
      refine RunL.val (Val.add rfl rfl (IntWalk.i64_in _ ⟨by omega, by omega⟩)) rfl rfl rfl ?_
      refine RunL.val (Val.pure rfl) rfl rfl rfl ?_
      refine RunL.nil ?_
      refine RunE.block_normal ?_
      refine RunE.next ?_
      refine RunC.region ?_
      refine RunL.val (Val.add rfl rfl (IntWalk.i64_in _ ⟨by omega, by omega⟩)) rfl rfl rfl ?_
      refine RunL.val (Val.pure rfl) rfl rfl rfl ?_
      refine RunL.nil ?_
      exact RunE.round (by omega) trivial rfl (Sub.consE (t := 9) rfl rfl (Sub.consE (t := 4) rfl (by rw [take_count hk, c1']; simp) (Sub.cons (t := 0) rfl (Sub.cons (t := 1) rfl (Sub.cons (t := 7) rfl (Sub.cons (t := 8) rfl (Sub.nil _))))))) .nil
    · intro c1
      have c1' := c1; clear c1
      try simp only [decide_eq_true_eq, decide_eq_false_iff_not, Bool.not_eq_true', Bool.not_eq_false', Bool.and_eq_true, Bool.or_eq_true, Bool.and_eq_false_iff, Bool.or_eq_false_iff, Int.not_le, Int.not_lt] at c1'
      refine RunC.skip ?_
      refine RunE.block_normal ?_
      refine RunE.next ?_
      refine RunC.region ?_
      refine RunL.val (Val.add rfl rfl (IntWalk.i64_in _ ⟨by omega, by omega⟩)) rfl rfl rfl ?_
      refine RunL.val (Val.pure rfl) rfl rfl rfl ?_
      refine RunL.nil ?_
      exact RunE.round (by omega) trivial rfl (Sub.consE (t := 9) rfl rfl (Sub.consE (t := 4) rfl (by rw [take_count hk, c1']; simp) (Sub.cons (t := 0) rfl (Sub.cons (t := 1) rfl (Sub.cons (t := 7) rfl (Sub.cons (t := 8) rfl (Sub.nil _))))))) .nil
  · intro c0
    have c0' := c0; clear c0
    try simp only [decide_eq_true_eq, decide_eq_false_iff_not, Bool.not_eq_true', Bool.not_eq_false', Bool.and_eq_true, Bool.or_eq_true, Bool.and_eq_false_iff, Bool.or_eq_false_iff, Int.not_le, Int.not_lt] at c0'
    obtain rfl : k = l.length := by omega
    simp only [List.take_length]
    refine RunC.exit ?_
    refine RunE.pass_exit ?_
    refine RunE.pass_exit ?_
    refine RunE.block_here ?_
    refine RunE.next ?_
    refine RunC.seq ?_
    refine RunC.region ?_
    refine RunL.val (Val.pure rfl) rfl rfl rfl ?_
    refine RunL.val (Val.pure rfl) rfl rfl rfl ?_
    refine RunL.nil ?_
    refine RunE.next ?_
    refine RunC.ret ?_
    exact RunE.retP (.r1 rfl (.tmp rfl)) (by first | rfl | simp)
end Go.Proofs.YtlhdalcipflblaaDoor
/- Walks of package heap: pieces of texts. -/
set_option linter.unusedSimpArgs false
set_option linter.unusedVariables false
namespace Go.Hp
open Go Go.Eng Go.Pw1
/-- The bytes of a text, in a block of their own. -/
theorem bytes_sl {w : World} {b e p : Nat} {l : Str} (h : w.heap[b]? = some (bytesO e (l.map byteV) p)) : Sl w (some ⟨b, 0, none⟩) b 0 1 (bytesV l) := by
  refine ⟨fun _ => rfl, fun x hx => ?_, fun i hi j hj => ?_⟩
  · obtain ⟨c, _, rfl⟩ := List.mem_map.1 hx; rfl
  · obtain rfl : j = 0 := by omega
    have hi2 : i < l.length := by simpa [bytesV] using hi
    simp [World.cell?, h, bytesO, bytesV, hi2, List.getElem?_append_left, byteV]
theorem starAt_idx : ∀ s : Str, Lib.indexByte s 42 = match starAt s with | some i => (i : Int) | none => -1
  | [] => rfl
  | c :: s => by
    have ih := starAt_idx s
    unfold Lib.indexByte starAt
    have hc : (c == 42) = decide (c.toNat = 42) := by
      rw [Bool.eq_iff_iff]
      simp only [beq_iff_eq, decide_eq_true_eq]
      exact ⟨fun h => by rw [h]; rfl, fun h => UInt8.toNat_inj.1 h⟩
    rw [hc]
    by_cases h : c.toNat = 42
    · simp [h]
    · simp only [h, decide_false, Bool.false_eq_true, if_false, ih]
      cases starAt s with
      | none => rfl
      | some i =>
        have h1 : ((i : Int) == -1) = false := by simp
        simp [h1]
theorem starAt_lt : ∀ {s : Str} {i : Nat}, starAt s = some i → i < s.length
  | c :: s, i, h => by
    unfold starAt at h
    split at h
    · cases h; simp
    · cases hs : starAt s with
      | none => rw [hs] at h; cases h
      | some j =>
        rw [hs] at h
        have := starAt_lt hs
        simp at h
        subst h
        simpa using this
def pieceT (p : Str) : TypeId := if (starAt p).isSome then 131 else 129
def pieceP (p : Str) : Value := match starAt p with
  | some i => .agg #[.string (bs (p.take i)), .string (bs (p.drop (i + 1)))]
  | none => .string (bs p)
def pieceF (p : Str) : FuncId := if (starAt p).isSome then 129 else 128
def pieceV (p : Str) : Value := .iface (pieceT p) (pieceP p)
end Go.Hp
namespace Go.Proofs.YtlhdalcipflblaaDoor
open Go Go.Eng Go.Hp Go.Pw1

theorem isPiece_calls (s : Str) (hl : s.length ≤ 1000000) (W : World) : Calls Tryd.prog 77 #[.string (bs s)] W (Pure (.bool (pieceX s)) W) := by
  refine calls_start Tryd.func77 rfl rfl ?_
  refine RunC.seq ?_
  refine RunC.region ?_
  refine RunL.val (Val.pure rfl) rfl rfl rfl ?_
  refine RunL.nil ?_
  refine RunE.next ?_
  refine RunC.seq ?_
  refine RunC.region ?_
  refine RunL.val (Val.pure rfl) rfl rfl rfl ?_
  refine RunL.nil ?_
  refine RunE.next ?_
  refine RunC.seq ?_
  refine RunC.region ?_
  refine RunL.val (Val.pure rfl) rfl rfl rfl ?_
  refine RunL.nil ?_
  refine RunE.next ?_
  refine RunC.seq ?_
  refine RunC.region ?_
  refine RunL.val (Val.pure rfl) rfl rfl rfl ?_
  refine RunL.newX (NewX.bytes rfl und_9 sls_47 und_5) rfl rfl rfl (fun p7 _ b7 => ?_)
  refine RunL.val (Val.pure rfl) rfl rfl rfl ?_
  refine RunL.nil ?_
  refine RunE.next ?_
  refine RunC.seq ?_
  refine RunC.region ?_
  refine RunL.val (Val.pure rfl) rfl rfl rfl ?_
  refine RunL.val (Val.len_sl rfl sl_47) rfl rfl rfl ?_
  refine RunL.val (Val.pure rfl) rfl rfl rfl ?_
  refine RunL.val (Val.pure rfl) rfl rfl rfl ?_
  refine RunL.andPart (dj := 11) (dp := 18) 7 rfl (fun g11 => by
    have g11' := g11
    try simp only [decide_eq_true_eq, decide_eq_false_iff_not, Bool.not_eq_true', Bool.not_eq_false', Bool.and_eq_true, Bool.or_eq_true, Bool.and_eq_false_iff, Bool.or_eq_false_iff, Int.not_le, Int.not_lt] at g11'
    refine RunL.val (Val.pure rfl) rfl rfl rfl ?_
    refine RunL.val (Val.pure rfl) rfl rfl rfl ?_
    refine RunL.callP (isCall_func rfl ent_72) rfl rfl rfl (fun w hm => counted_calls goodX s _ b7 0 _ 88 w (bytes_sl (hm.at (.head _))) (by omega) ent_88 good_calls) ?_
    refine RunL.val (Val.pure rfl) rfl rfl rfl ?_
    refine RunL.val (Val.len_sl rfl sl_47) rfl rfl rfl ?_
    refine RunL.val (Val.pure rfl) rfl rfl rfl ?_
    refine RunL.val (Val.pure rfl) rfl rfl rfl ?_
    exact RunL.segEnd (Sub.cons rfl (Sub.skip rfl (Sub.skip rfl (Sub.skip rfl (Sub.skip rfl (Sub.skip rfl (Sub.skip rfl (Sub.skip rfl (Sub.same rfl (by rw [g11]) (Sub.refl _)))))))))) (List.Sublist.refl _)
  ) (fun g11 => by
    have g11' := g11
    try simp only [decide_eq_true_eq, decide_eq_false_iff_not, Bool.not_eq_true', Bool.not_eq_false', Bool.and_eq_true, Bool.or_eq_true, Bool.and_eq_false_iff, Bool.or_eq_false_iff, Int.not_le, Int.not_lt] at g11'
    iterate 6 refine RunL.no rfl rfl rfl ?_
    refine RunL.val (Val.pure rfl) rfl rfl rfl ?_
    exact RunL.segEnd (Sub.cons rfl (Sub.skip rfl (Sub.skip rfl (Sub.skip rfl (Sub.skip rfl (Sub.skip rfl (Sub.skip rfl (Sub.skip rfl (Sub.same rfl (by rw [g11]) (Sub.refl _)))))))))) (List.Sublist.refl _)
  ) ?_
  refine RunL.val (Val.pure rfl) rfl rfl rfl ?_
  refine RunL.andPart (dj := 19) (dp := 24) 5 rfl (fun g19 => by
    have g19' := g19
    try simp only [decide_eq_true_eq, decide_eq_false_iff_not, Bool.not_eq_true', Bool.not_eq_false', Bool.and_eq_true, Bool.or_eq_true, Bool.and_eq_false_iff, Bool.or_eq_false_iff, Int.not_le, Int.not_lt] at g19'
    refine RunL.val (Val.pure rfl) rfl rfl rfl ?_
    refine RunL.val (Val.pure rfl) rfl rfl rfl ?_
    refine RunL.callP (isCall_func rfl ent_72) rfl rfl rfl (fun w hm => counted_calls starX s _ b7 0 _ 87 w (bytes_sl (hm.at (.head _))) (by omega) ent_87 star_calls) ?_
    refine RunL.val (Val.pure rfl) rfl rfl rfl ?_
    refine RunL.val (Val.pure rfl) rfl rfl rfl ?_
    exact RunL.segEnd (Sub.cons rfl (Sub.skip rfl (Sub.skip rfl (Sub.skip rfl (Sub.skip rfl (Sub.skip rfl (Sub.same rfl (by rw [g19]) (Sub.refl _)))))))) (List.Sublist.refl _)
  ) (fun g19 => by
    have g19' := g19
    try simp only [decide_eq_true_eq, decide_eq_false_iff_not, Bool.not_eq_true', Bool.not_eq_false', Bool.and_eq_true, Bool.or_eq_true, Bool.and_eq_false_iff, Bool.or_eq_false_iff, Int.not_le, Int.not_lt] at g19'
    iterate 4 refine RunL.no rfl rfl rfl ?_
    refine RunL.val (Val.pure rfl) rfl rfl rfl ?_
    exact RunL.segEnd (Sub.cons rfl (Sub.skip rfl (Sub.skip rfl (Sub.skip rfl (Sub.skip rfl (Sub.skip rfl (Sub.same rfl (by rw [g19]) (Sub.refl _)))))))) (List.Sublist.refl _)
  ) ?_
  refine RunL.val (Val.pure rfl) rfl rfl rfl ?_
  refine RunL.nil ?_
  refine RunE.next ?_
  refine RunC.ret ?_
  exact RunE.retP (.r1 rfl (.tmp rfl)) (by simp only [pieceX]; refine congrArg Value.bool ?_; refine Bool.eq_iff_iff.2 ?_; simp only [Bool.and_eq_true, decide_eq_true_eq]; omega)
theorem badTitle_calls (s : Str) (hl : s.length ≤ 1000000) (W : World) : Calls Tryd.prog 71 #[.string (bs s)] W (Pure (.bool (badTitle s)) W) := by
  refine calls_start Tryd.func71 rfl rfl ?_
  refine RunC.seq ?_
  refine RunC.region ?_
  refine RunL.val (Val.pure rfl) rfl rfl rfl ?_
  refine RunL.nil ?_
  refine RunE.next ?_
  refine RunC.seq ?_
  refine RunC.region ?_
  refine RunL.val (Val.pure rfl) rfl rfl rfl ?_
  refine RunL.val (Val.lenS rfl und_9) rfl rfl rfl ?_
  refine RunL.callP (isCall_func rfl ent_53) rfl rfl rfl (fun w hm => hwithin_calls _ _ _ w) ?_
  refine RunL.val (Val.pure rfl) rfl rfl rfl ?_
  refine RunL.val (Val.pure rfl) rfl rfl rfl ?_
  refine RunL.orPart (dj := 7) (dp := 14) 7 rfl (fun g7 => by
    have g7' := g7
    try simp only [decide_eq_true_eq, decide_eq_false_iff_not, Bool.not_eq_true', Bool.not_eq_false', Bool.and_eq_true, Bool.or_eq_true, Bool.and_eq_false_iff, Bool.or_eq_false_iff, Int.not_le, Int.not_lt] at g7'
    refine RunL.val (Val.pure rfl) rfl rfl rfl ?_
    refine RunL.newX (NewX.bytes rfl und_9 sls_47 und_5) rfl rfl rfl (fun p9 _ b9 => ?_)
    refine RunL.callP (isCall_func rfl ent_72) rfl rfl rfl (fun w hm => counted_calls letterX s _ b9 0 _ 73 w (bytes_sl (hm.at (.head _))) (by omega) ent_73 letter_calls) ?_
    refine RunL.val (Val.pure rfl) rfl rfl rfl ?_
    refine RunL.val (Val.lenS rfl und_9) rfl rfl rfl ?_
    refine RunL.val (Val.pure rfl) rfl rfl rfl ?_
    refine RunL.val (Val.pure rfl) rfl rfl rfl ?_
    exact RunL.segEnd (Sub.cons rfl (Sub.skip rfl (Sub.skip rfl (Sub.skip rfl (Sub.skip rfl (Sub.skip rfl (Sub.skip rfl (Sub.skip rfl (Sub.same rfl (by rw [g7]) (Sub.refl _)))))))))) (.cons _ (List.Sublist.refl _))
  ) (fun g7 => by
    have g7' := g7
    try simp only [decide_eq_true_eq, decide_eq_false_iff_not, Bool.not_eq_true', Bool.not_eq_false', Bool.and_eq_true, Bool.or_eq_true, Bool.and_eq_false_iff, Bool.or_eq_false_iff, Int.not_le, Int.not_lt] at g7'
    iterate 6 refine RunL.no rfl rfl rfl ?_
    refine RunL.val (Val.pure rfl) rfl rfl rfl ?_
    exact RunL.segEnd (Sub.cons rfl (Sub.skip rfl (Sub.skip rfl (Sub.skip rfl (Sub.skip rfl (Sub.skip rfl (Sub.skip rfl (Sub.skip rfl (Sub.same rfl (by rw [g7]) (Sub.refl _)))))))))) (List.Sublist.refl _)
  ) ?_
  refine RunL.val (Val.pure rfl) rfl rfl rfl ?_
  refine RunL.nil ?_
  refine RunE.next ?_
  refine RunC.ret ?_
  exact RunE.retP (.r1 rfl (.tmp rfl)) (by simp only [badTitle]; refine congrArg Value.bool ?_; refine Bool.eq_iff_iff.2 ?_; simp only [Bool.or_eq_true, decide_eq_true_eq, Int.ofNat_lt])
theorem badCard_calls (t : Tn) (h : t.number.length ≤ 1000000 ∧ t.text.length ≤ 1000000) (W : World) : Calls Tryd.prog 76 #[.agg t.cells.toArray] W (Pure (.bool (badCard t)) W) := by
  refine calls_start Tryd.func76 rfl rfl ?_
  refine RunC.seq ?_
  refine RunC.region ?_
  refine RunL.new (New.box rfl) rfl rfl rfl (fun b1 => ?_)
  refine RunL.val (Val.pure rfl) rfl rfl rfl ?_
  refine RunL.nil ?_
  refine RunE.next ?_
  refine RunC.seq ?_
  refine RunC.region ?_
  refine RunL.val (Val.fieldAddr rfl fld_50_0) rfl rfl rfl ?_
  refine RunL.val (Val.load_one rfl (.head _) ty_3 rfl) rfl rfl rfl ?_
  refine RunL.callP (isCall_func rfl ent_53) rfl rfl rfl (fun w hm => hwithin_calls _ _ _ w) ?_
  refine RunL.val (Val.pure rfl) rfl rfl rfl ?_
  refine RunL.val (Val.pure rfl) rfl rfl rfl ?_
  refine RunL.orPart (dj := 7) (dp := 12) 5 rfl (fun g7 => by
    have g7' := g7
    try simp only [decide_eq_true_eq, decide_eq_false_iff_not, Bool.not_eq_true', Bool.not_eq_false', Bool.and_eq_true, Bool.or_eq_true, Bool.and_eq_false_iff, Bool.or_eq_false_iff, Int.not_le, Int.not_lt] at g7'
    refine RunL.val (Val.fieldAddr rfl fld_50_1) rfl rfl rfl ?_
    refine RunL.val (Val.load_one rfl (.head _) ty_9 rfl) rfl rfl rfl ?_
    refine RunL.callP (isCall_func rfl ent_77) rfl rfl rfl (fun w hm => isPiece_calls t.number h.1 w) ?_
    refine RunL.val (Val.pure rfl) rfl rfl rfl ?_
    refine RunL.val (Val.pure rfl) rfl rfl rfl ?_
    exact RunL.segEnd (Sub.cons rfl (Sub.skip rfl (Sub.skip rfl (Sub.skip rfl (Sub.skip rfl (Sub.skip rfl (Sub.same rfl (by rw [g7]) (Sub.refl _)))))))) (List.Sublist.refl _)
  ) (fun g7 => by
    have g7' := g7
    try simp only [decide_eq_true_eq, decide_eq_false_iff_not, Bool.not_eq_true', Bool.not_eq_false', Bool.and_eq_true, Bool.or_eq_true, Bool.and_eq_false_iff, Bool.or_eq_false_iff, Int.not_le, Int.not_lt] at g7'
    iterate 4 refine RunL.no rfl rfl rfl ?_
    refine RunL.val (Val.pure rfl) rfl rfl rfl ?_
    exact RunL.segEnd (Sub.cons rfl (Sub.skip rfl (Sub.skip rfl (Sub.skip rfl (Sub.skip rfl (Sub.skip rfl (Sub.same rfl (by rw [g7]) (Sub.refl _)))))))) (List.Sublist.refl _)
  ) ?_
  refine RunL.val (Val.pure rfl) rfl rfl rfl ?_
  refine RunL.orPart (dj := 13) (dp := 18) 5 rfl (fun g13 => by
    have g13' := g13
    try simp only [decide_eq_true_eq, decide_eq_false_iff_not, Bool.not_eq_true', Bool.not_eq_false', Bool.and_eq_true, Bool.or_eq_true, Bool.and_eq_false_iff, Bool.or_eq_false_iff, Int.not_le, Int.not_lt] at g13'
    refine RunL.val (Val.fieldAddr rfl fld_50_2) rfl rfl rfl ?_
    refine RunL.val (Val.load_one rfl (.head _) ty_9 rfl) rfl rfl rfl ?_
    refine RunL.callP (isCall_func rfl ent_77) rfl rfl rfl (fun w hm => isPiece_calls t.text h.2 w) ?_
    refine RunL.val (Val.pure rfl) rfl rfl rfl ?_
    refine RunL.val (Val.pure rfl) rfl rfl rfl ?_
    exact RunL.segEnd (Sub.cons rfl (Sub.skip rfl (Sub.skip rfl (Sub.skip rfl (Sub.skip rfl (Sub.skip rfl (Sub.same rfl (by rw [g13]) (Sub.refl _)))))))) (List.Sublist.refl _)
  ) (fun g13 => by
    have g13' := g13
    try simp only [decide_eq_true_eq, decide_eq_false_iff_not, Bool.not_eq_true', Bool.not_eq_false', Bool.and_eq_true, Bool.or_eq_true, Bool.and_eq_false_iff, Bool.or_eq_false_iff, Int.not_le, Int.not_lt] at g13'
    iterate 4 refine RunL.no rfl rfl rfl ?_
    refine RunL.val (Val.pure rfl) rfl rfl rfl ?_
    exact RunL.segEnd (Sub.cons rfl (Sub.skip rfl (Sub.skip rfl (Sub.skip rfl (Sub.skip rfl (Sub.skip rfl (Sub.same rfl (by rw [g13]) (Sub.refl _)))))))) (List.Sublist.refl _)
  ) ?_
  refine RunL.val (Val.pure rfl) rfl rfl rfl ?_
  refine RunL.nil ?_
  refine RunE.next ?_
  refine RunC.ret ?_
  exact RunE.retP (.r1 rfl (.tmp rfl)) (by first | rfl | simp)
theorem whole_calls (p s : Str) (hp : p.length ≤ 1000000) (hs : s.length ≤ 1000000) (W : World) : Calls Tryd.prog 128 #[.string (bs p), .string (bs s)] W (Pure (.bool (suitsW p s)) W) := by
  refine calls_start Tryd.func128 rfl rfl ?_
  refine RunC.seq ?_
  refine RunC.region ?_
  refine RunL.val (Val.pure rfl) rfl rfl rfl ?_
  refine RunL.nil ?_
  refine RunE.next ?_
  refine RunC.seq ?_
  refine RunC.seq ?_
  refine RunC.region ?_
  refine RunL.val (Val.pure rfl) rfl rfl rfl ?_
  refine RunL.val (Val.lenS rfl und_129) rfl rfl rfl ?_
  refine RunL.val (Val.pure rfl) rfl rfl rfl ?_
  refine RunL.val (Val.lenS rfl und_9) rfl rfl rfl ?_
  refine RunL.val (Val.pure rfl) rfl rfl rfl ?_
  refine RunL.nil ?_
  refine RunE.next ?_
  refine RunC.cond rfl ?_ ?_
  · intro c0
    have c0' := c0; clear c0
    try simp only [decide_eq_true_eq, decide_eq_false_iff_not, Bool.not_eq_true', Bool.not_eq_false', Bool.and_eq_true, Bool.or_eq_true, Bool.and_eq_false_iff, Bool.or_eq_false_iff, Int.not_le, Int.not_lt] at c0'
    have hne : p.length ≠ s.length := by omega
    refine RunC.seq ?_
    refine RunC.region ?_
    refine RunL.val (Val.pure rfl) rfl rfl rfl ?_
    refine RunL.nil ?_
    refine RunE.next ?_
    refine RunC.ret ?_
    refine RunE.pass_ret ?_
    exact RunE.retP (.r1 rfl (.tmp rfl)) (by rw [suitsW_len hne])
  · intro c0
    have c0' := c0; clear c0
    try simp only [decide_eq_true_eq, decide_eq_false_iff_not, Bool.not_eq_true', Bool.not_eq_false', Bool.and_eq_true, Bool.or_eq_true, Bool.and_eq_false_iff, Bool.or_eq_false_iff, Int.not_le, Int.not_lt] at c0'
    have heq : p.length = s.length := by omega
    refine RunC.skip ?_
    refine RunE.next ?_
    refine RunC.seq ?_
    refine RunC.seq ?_
    refine RunC.region ?_
    refine RunL.val (Val.pure rfl) rfl rfl rfl ?_
    refine RunL.val (Val.lenS rfl und_9) rfl rfl rfl ?_
    refine RunL.val (Val.pure rfl) rfl rfl rfl ?_
    refine RunL.nil ?_
    refine RunE.next ?_
    refine RunC.block ?_
    refine RunC.loopK (s.length) (fun k q => (13, .int .i64 (k : Int)) :: q) (fun _ => _) (fun _ => []) (fun k => ∀ j (h : j < k) (h1 : j < p.length) (h2 : j < s.length), p[j].toNat = 63 ∨ p[j] = s[j]) (fun j h => absurd h (by omega)) rfl (Sub.consE (t := 13) rfl rfl (Sub.cons (t := 0) rfl (Sub.cons (t := 1) rfl (Sub.cons (t := 11) rfl (Sub.cons (t := 12) rfl (Sub.nil _)))))) .nil ?_
    intro k kN kI
    refine RunC.seq ?_
    refine RunC.region ?_
    refine RunL.val (Val.pure rfl) rfl rfl rfl ?_
    refine RunL.nil ?_
    refine RunE.next ?_
    refine RunC.seq ?_
    refine RunC.cond rfl ?_ ?_
    · intro c1
      have c1' := c1; clear c1
      try simp only [decide_eq_true_eq, decide_eq_false_iff_not, Bool.not_eq_true', Bool.not_eq_false', Bool.and_eq_true, Bool.or_eq_true, Bool.and_eq_false_iff, Bool.or_eq_false_iff, Int.not_le, Int.not_lt] at c1'
      have hk : k < s.length := by omega
      have hk2 : k < p.length := by omega
      obtain ⟨x, hx⟩ : ∃ x, p[k] = x := ⟨_, rfl⟩
      obtain ⟨y, hy⟩ : ∃ y, s[k] = y := ⟨_, rfl⟩
      have hx2 : p[(k : Int).toNat]? = some x := by simp [hk2, hx]
      have hy2 : s[(k : Int).toNat]? = some y := by simp [hk, hy]
      refine RunC.skip ?_
      refine RunE.next ?_
      refine RunC.seq ?_
      refine RunC.block ?_
      refine RunC.seq ?_
      refine RunC.region ?_
      refine RunL.val (Val.pure rfl) rfl rfl rfl ?_
      refine RunL.val (Val.pure rfl) rfl rfl rfl ?_
      refine RunL.nil ?_
      refine RunE.next ?_
      refine RunC.seq ?_
      apply RunC.drawJ (J := J0 _ _ _ _ _ _) 11 fol_ .nil
      · refine RunA.val (i := 0) rfl (by kernel_rfl) (by kernel_rfl) (Val.pure rfl) rfl rfl rfl (fun _ _ _ h => h) .nil rfl ?_
        refine RunA.val (i := 1) rfl (by kernel_rfl) (by kernel_rfl) (Val.pure rfl) rfl rfl rfl (fun _ _ _ h => h) .nil rfl ?_
        refine RunA.val (i := 2) rfl (by kernel_rfl) (by kernel_rfl) (Val.strIndex rfl rfl und_129 (by omega) hx2) rfl rfl rfl (fun _ _ _ h => h) .nil rfl ?_
        refine RunA.val (i := 3) rfl (by kernel_rfl) (by kernel_rfl) (Val.pure rfl) rfl rfl rfl (fun _ _ _ h => h) .nil rfl ?_
        refine RunA.val (i := 4) rfl (by kernel_rfl) (by kernel_rfl) (Val.pure rfl) rfl rfl rfl (fun _ _ _ h => h) .nil rfl ?_
        refine RunA.ways (dj := 20) rfl ?_ ?_
        · intro g20
          have g20' := g20; clear g20
          try simp only [decide_eq_true_eq, decide_eq_false_iff_not, Bool.not_eq_true', Bool.not_eq_false', Bool.and_eq_true, Bool.or_eq_true, Bool.and_eq_false_iff, Bool.or_eq_false_iff, Int.not_le, Int.not_lt] at g20'
          refine RunA.val (i := 5) rfl (by kernel_rfl) (by kernel_rfl) (Val.pure rfl) rfl rfl rfl (fun _ _ _ h => h) .nil rfl ?_
          refine RunA.val (i := 6) rfl (by kernel_rfl) (by kernel_rfl) (Val.pure rfl) rfl rfl rfl (fun _ _ _ h => h) .nil rfl ?_
          refine RunA.val (i := 7) rfl (by kernel_rfl) (by kernel_rfl) (Val.strIndex rfl rfl und_129 (by omega) hx2) rfl rfl rfl (fun _ _ _ h => h) .nil rfl ?_
          refine RunA.val (i := 8) rfl (by kernel_rfl) (by kernel_rfl) (Val.pure rfl) rfl rfl rfl (fun _ _ _ h => h) .nil rfl ?_
          refine RunA.val (i := 9) rfl (by kernel_rfl) (by kernel_rfl) (Val.pure rfl) rfl rfl rfl (fun _ _ _ h => h) .nil rfl ?_
          refine RunA.val (i := 10) rfl (by kernel_rfl) (by kernel_rfl) (Val.strIndex rfl rfl und_9 (by omega) hy2) rfl rfl rfl (fun _ _ _ h => h) .nil rfl ?_
          refine RunA.toB (by kernel_rfl) ?_
          refine RunB.one (i := 11) (by kernel_rfl) ?_
          refine RunI.val rfl (Val.pure rfl) rfl rfl rfl (RunK.toB ?_)
          refine RunB.one (i := 12) (by kernel_rfl) ?_
          refine RunI.val rfl (Val.pure rfl) rfl rfl rfl (RunK.toB ?_)
          refine RunB.done (by kernel_rfl) ?_
          exact RunE.join0  (Sub.consE (t := 28) (v := .bool (!(decide ((x.toNat : Int) = 63) || decide ((x.toNat : Int) = (y.toNat : Int))))) rfl (by first | rfl | (refine congrArg Value.bool (Bool.eq_iff_iff.2 ?_); simp only [Bool.or_eq_true, Bool.and_eq_true, Bool.not_eq_true', Bool.or_eq_false_iff, Bool.and_eq_false_iff, Bool.not_eq_false', decide_eq_true_eq, decide_eq_false_iff_not, Bool.false_eq_true, true_iff, false_iff, iff_true, iff_false, and_true, true_and, Bool.and_true, Bool.true_and]; omega)) (Sub.skip rfl (Sub.skip rfl (Sub.skip rfl (Sub.skip rfl (Sub.skip rfl (Sub.skip rfl (Sub.skip rfl (Sub.skip rfl (Sub.skip rfl (Sub.skip rfl (Sub.skip rfl (Sub.skip rfl (Sub.skip rfl (Sub.skip rfl (Sub.refl _)))))))))))))))) (Pick.refl _)
        · intro g20
          have g20' := g20; clear g20
          try simp only [decide_eq_true_eq, decide_eq_false_iff_not, Bool.not_eq_true', Bool.not_eq_false', Bool.and_eq_true, Bool.or_eq_true, Bool.and_eq_false_iff, Bool.or_eq_false_iff, Int.not_le, Int.not_lt] at g20'
          refine RunA.no (i := 5) rfl (by kernel_rfl) (by kernel_rfl) rfl rfl rfl (fun _ _ _ h => h) .nil rfl ?_
          refine RunA.no (i := 6) rfl (by kernel_rfl) (by kernel_rfl) rfl rfl rfl (fun _ _ _ h => h) .nil rfl ?_
          refine RunA.no (i := 7) rfl (by kernel_rfl) (by kernel_rfl) rfl rfl rfl (fun _ _ _ h => h) .nil rfl ?_
          refine RunA.no (i := 8) rfl (by kernel_rfl) (by kernel_rfl) rfl rfl rfl (fun _ _ _ h => h) .nil rfl ?_
          refine RunA.no (i := 9) rfl (by kernel_rfl) (by kernel_rfl) rfl rfl rfl (fun _ _ _ h => h) .nil rfl ?_
          refine RunA.no (i := 10) rfl (by kernel_rfl) (by kernel_rfl) rfl rfl rfl (fun _ _ _ h => h) .nil rfl ?_
          refine RunA.toB (by kernel_rfl) ?_
          refine RunB.one (i := 11) (by kernel_rfl) ?_
          refine RunI.no rfl rfl rfl rfl (RunK.toB ?_)
          refine RunB.one (i := 12) (by kernel_rfl) ?_
          refine RunI.val rfl (Val.pure rfl) rfl rfl rfl (RunK.toB ?_)
          refine RunB.done (by kernel_rfl) ?_
          exact RunE.join0  (Sub.consE (t := 28) (v := .bool (!(decide ((x.toNat : Int) = 63) || decide ((x.toNat : Int) = (y.toNat : Int))))) rfl (by first | rfl | (refine congrArg Value.bool (Bool.eq_iff_iff.2 ?_); simp only [Bool.or_eq_true, Bool.and_eq_true, Bool.not_eq_true', Bool.or_eq_false_iff, Bool.and_eq_false_iff, Bool.not_eq_false', decide_eq_true_eq, decide_eq_false_iff_not, Bool.false_eq_true, true_iff, false_iff, iff_true, iff_false, and_true, true_and, Bool.and_true, Bool.true_and]; omega)) (Sub.skip rfl (Sub.skip rfl (Sub.skip rfl (Sub.skip rfl (Sub.skip rfl (Sub.skip rfl (Sub.skip rfl (Sub.skip rfl (Sub.skip rfl (Sub.skip rfl (Sub.skip rfl (Sub.skip rfl (Sub.skip rfl (Sub.skip rfl (Sub.refl _)))))))))))))))) .nil
      refine J0.out ?_
      refine RunE.next ?_
      refine RunC.cond rfl ?_ ?_
      · intro c2
        have c2' := c2; clear c2
        try simp only [decide_eq_true_eq, decide_eq_false_iff_not, Bool.not_eq_true', Bool.not_eq_false', Bool.and_eq_true, Bool.or_eq_true, Bool.and_eq_false_iff, Bool.or_eq_false_iff, Int.not_le, Int.not_lt] at c2'
        have hN : suitsW p s = false := by (rw [Bool.eq_false_iff]; intro h; have h3 := (suitsW_iff.1 h).2 k hk2 hk; rw [hx, hy] at h3; rcases h3 with h3 | h3; omega; (have h4 := congrArg UInt8.toNat h3; omega))
        refine RunC.seq ?_
        refine RunC.region ?_
        refine RunL.val (Val.pure rfl) rfl rfl rfl ?_
        refine RunL.nil ?_
        refine RunE.next ?_
        refine RunC.ret ?_
        refine RunE.block_ret ?_
        refine RunE.pass_ret ?_
        refine RunE.pass_ret ?_
        refine RunE.block_ret ?_
        refine RunE.pass_ret ?_
        exact RunE.retP (.r1 rfl (.tmp rfl)) (by rw [hN])
      · intro c2
        have c2' := c2; clear c2
        try simp only [decide_eq_true_eq, decide_eq_false_iff_not, Bool.not_eq_true', Bool.not_eq_false', Bool.and_eq_true, Bool.or_eq_true, Bool.and_eq_false_iff, Bool.or_eq_false_iff, Int.not_le, Int.not_lt] at c2'
        have hJ : p[k].toNat = 63 ∨ p[k] = s[k] := by (rw [hx, hy]; rcases c2' with h | h; (left; omega); (right; exact UInt8.toNat_inj.1 (by omega)))
        refine RunC.skip ?_
        refine RunE.block_normal ?_
        refine RunE.next ?_
        refine RunC.region ?_
        refine RunL.val (Val.add rfl rfl (IntWalk.i64_in _ ⟨by omega, by omega⟩)) rfl rfl rfl ?_
        refine RunL.val (Val.pure rfl) rfl rfl rfl ?_
        refine RunL.nil ?_
        exact RunE.round (by omega) (fun j h h1 h2 => by (rcases Nat.lt_or_ge j k with h4 | h4; exact kI j h4 h1 h2; have e : j = k := (by omega); subst e; exact hJ)) rfl (Sub.consE (t := 13) rfl rfl (Sub.cons (t := 0) rfl (Sub.cons (t := 1) rfl (Sub.cons (t := 11) rfl (Sub.cons (t := 12) rfl (Sub.nil _)))))) .nil
    · intro c1
      have c1' := c1; clear c1
      try simp only [decide_eq_true_eq, decide_eq_false_iff_not, Bool.not_eq_true', Bool.not_eq_false', Bool.and_eq_true, Bool.or_eq_true, Bool.and_eq_false_iff, Bool.or_eq_false_iff, Int.not_le, Int.not_lt] at c1'
      obtain rfl : k = s.length := by omega
      refine RunC.exit ?_
      refine RunE.pass_exit ?_
      refine RunE.pass_exit ?_
      refine RunE.block_here ?_
      refine RunE.next ?_
      refine RunC.seq ?_
      refine RunC.region ?_
      refine RunL.val (Val.pure rfl) rfl rfl rfl ?_
      refine RunL.nil ?_
      refine RunE.next ?_
      refine RunC.ret ?_
      exact RunE.retP (.r1 rfl (.tmp rfl)) (by rw [suitsW_iff.2 ⟨heq, fun j h1 h2 => kI j h2 h1 h2⟩])
theorem ends_calls (h t s : Str) (hh : h.length ≤ 1000000) (ht : t.length ≤ 1000000) (hs : s.length ≤ 1000000) (W : World) : Calls Tryd.prog 129 #[.agg #[.string (bs h), .string (bs t)], .string (bs s)] W (Pure (.bool (suitsE h t s)) W) := by
  refine calls_start Tryd.func129 rfl rfl ?_
  refine RunC.seq ?_
  refine RunC.region ?_
  refine RunL.new (New.box rfl) rfl rfl rfl (fun b2 => ?_)
  refine RunL.val (Val.pure rfl) rfl rfl rfl ?_
  refine RunL.nil ?_
  refine RunE.next ?_
  refine RunC.seq ?_
  refine RunC.draw 7 fol_ (.cons .here rfl .nil) ?_
  refine RunA.val (i := 0) rfl (by kernel_rfl) (by kernel_rfl) (Val.fieldAddr rfl fld_131_0) rfl rfl rfl (fun _ _ _ h => h) (.cons .here rfl .nil) rfl ?_
  refine RunA.val (i := 1) rfl (by kernel_rfl) (by kernel_rfl) (Val.load_one rfl (.head _) ty_129 rfl) rfl rfl rfl (fun _ _ _ h => h) (.cons .here rfl .nil) rfl ?_
  refine RunA.val (i := 2) rfl (by kernel_rfl) (by kernel_rfl) (Val.lenS rfl und_129) rfl rfl rfl (fun _ _ _ h => h) (.cons .here rfl .nil) rfl ?_
  refine RunA.val (i := 3) rfl (by kernel_rfl) (by kernel_rfl) (Val.fieldAddr rfl fld_131_1) rfl rfl rfl (fun _ _ _ h => h) (.cons .here rfl .nil) rfl ?_
  refine RunA.val (i := 4) rfl (by kernel_rfl) (by kernel_rfl) (Val.load_one rfl (.head _) ty_129 rfl) rfl rfl rfl (fun _ _ _ h => h) (.cons .here rfl .nil) rfl ?_
  refine RunA.val (i := 5) rfl (by kernel_rfl) (by kernel_rfl) (Val.lenS rfl und_129) rfl rfl rfl (fun _ _ _ h => h) (.cons .here rfl .nil) rfl ?_
  refine RunA.val (i := 6) rfl (by kernel_rfl) (by kernel_rfl) (Val.pure rfl) rfl rfl rfl (fun _ _ _ h => h) (.cons .here rfl .nil) rfl ?_
  refine RunA.toB (by kernel_rfl) ?_
  refine RunB.one (i := 7) (by kernel_rfl) ?_
  refine RunI.val rfl (Val.pure rfl) rfl rfl rfl (RunK.toB ?_)
  refine RunB.done (by kernel_rfl) ?_
  refine RunE.next ?_
  refine RunC.seq ?_
  refine RunC.keep (Sub.cons (t := 1) rfl (Sub.cons (t := 2) rfl (Sub.cons (t := 5) rfl (Sub.cons (t := 6) rfl (Sub.nil _))))) (.cons .here rfl .nil) ?_
  apply RunC.drawJ (J := J0 _ _ _ _ _ _) 23 fol_ (.cons .here rfl .nil)
  · refine RunA.val (i := 0) rfl (by kernel_rfl) (by kernel_rfl) (Val.pure rfl) rfl rfl rfl (fun _ _ _ h => h) (.cons .here rfl .nil) rfl ?_
    refine RunA.val (i := 1) rfl (by kernel_rfl) (by kernel_rfl) (Val.pure rfl) rfl rfl rfl (fun _ _ _ h => h) (.cons .here rfl .nil) rfl ?_
    refine RunA.val (i := 2) rfl (by kernel_rfl) (by kernel_rfl) (Val.add rfl rfl (IntWalk.i64_in _ ⟨by omega, by omega⟩)) rfl rfl rfl (fun _ _ _ h => h) (.cons .here rfl .nil) rfl ?_
    refine RunA.val (i := 3) rfl (by kernel_rfl) (by kernel_rfl) (Val.pure rfl) rfl rfl rfl (fun _ _ _ h => h) (.cons .here rfl .nil) rfl ?_
    refine RunA.val (i := 4) rfl (by kernel_rfl) (by kernel_rfl) (Val.lenS rfl und_9) rfl rfl rfl (fun _ _ _ h => h) (.cons .here rfl .nil) rfl ?_
    refine RunA.val (i := 5) rfl (by kernel_rfl) (by kernel_rfl) (Val.pure rfl) rfl rfl rfl (fun _ _ _ h => h) (.cons .here rfl .nil) rfl ?_
    refine RunA.val (i := 6) rfl (by kernel_rfl) (by kernel_rfl) (Val.pure rfl) rfl rfl rfl (fun _ _ _ h => h) (.cons .here rfl .nil) rfl ?_
    refine RunA.ways (dj := 19) rfl ?_ ?_
    · intro g19
      have g19' := g19; clear g19
      try simp only [decide_eq_true_eq, decide_eq_false_iff_not, Bool.not_eq_true', Bool.not_eq_false', Bool.and_eq_true, Bool.or_eq_true, Bool.and_eq_false_iff, Bool.or_eq_false_iff, Int.not_le, Int.not_lt] at g19'
      refine RunA.val (i := 7) rfl (by kernel_rfl) (by kernel_rfl) (Val.fieldAddr rfl fld_131_0) rfl rfl rfl (fun _ _ _ h => h) (.cons .here rfl .nil) rfl ?_
      refine RunA.val (i := 8) rfl (by kernel_rfl) (by kernel_rfl) (Val.load_one rfl (.head _) ty_129 rfl) rfl rfl rfl (fun _ _ _ h => h) (.cons .here rfl .nil) rfl ?_
      refine RunA.val (i := 9) rfl (by kernel_rfl) (by kernel_rfl) (Val.pure rfl) rfl rfl rfl (fun _ _ _ h => h) (.cons .here rfl .nil) rfl ?_
      refine RunA.val (i := 10) rfl (by kernel_rfl) (by kernel_rfl) (Val.pure rfl) rfl rfl rfl (fun _ _ _ h => h) (.cons .here rfl .nil) rfl ?_
      refine RunA.val (i := 11) rfl (by kernel_rfl) (by kernel_rfl) (Val.strTo rfl rfl und_9 (by omega)) rfl rfl rfl (fun _ _ _ h => h) (.cons .here rfl .nil) rfl ?_
      refine RunA.one (i := 12) (by kernel_rfl) (by kernel_rfl) ?_
      refine RunI.callP rfl (isCall_func rfl ent_128) rfl rfl rfl (fun w hm => whole_calls h _ hh (by simp; omega) w) (RunK.toA (.cons .here rfl .nil) (.cons .here rfl .nil) rfl ?_)
      refine RunA.val (i := 13) rfl (by kernel_rfl) (by kernel_rfl) (Val.pure rfl) rfl rfl rfl (fun _ _ _ h => h) (.cons .here rfl .nil) rfl ?_
      refine RunA.val (i := 14) rfl (by kernel_rfl) (by kernel_rfl) (Val.pure rfl) rfl rfl rfl (fun _ _ _ h => h) (.cons .here rfl .nil) rfl ?_
      refine RunA.ways (dj := 27) rfl ?_ ?_
      · intro g27
        have g27' := g27; clear g27
        try simp only [decide_eq_true_eq, decide_eq_false_iff_not, Bool.not_eq_true', Bool.not_eq_false', Bool.and_eq_true, Bool.or_eq_true, Bool.and_eq_false_iff, Bool.or_eq_false_iff, Int.not_le, Int.not_lt] at g27'
        refine RunA.val (i := 15) rfl (by kernel_rfl) (by kernel_rfl) (Val.fieldAddr rfl fld_131_1) rfl rfl rfl (fun _ _ _ h => h) (.cons .here rfl .nil) rfl ?_
        refine RunA.val (i := 16) rfl (by kernel_rfl) (by kernel_rfl) (Val.load_one rfl (.head _) ty_129 rfl) rfl rfl rfl (fun _ _ _ h => h) (.cons .here rfl .nil) rfl ?_
        refine RunA.val (i := 17) rfl (by kernel_rfl) (by kernel_rfl) (Val.pure rfl) rfl rfl rfl (fun _ _ _ h => h) (.cons .here rfl .nil) rfl ?_
        refine RunA.val (i := 18) rfl (by kernel_rfl) (by kernel_rfl) (Val.pure rfl) rfl rfl rfl (fun _ _ _ h => h) (.cons .here rfl .nil) rfl ?_
        refine RunA.val (i := 19) rfl (by kernel_rfl) (by kernel_rfl) (Val.lenS rfl und_9) rfl rfl rfl (fun _ _ _ h => h) (.cons .here rfl .nil) rfl ?_
        refine RunA.val (i := 20) rfl (by kernel_rfl) (by kernel_rfl) (Val.pure rfl) rfl rfl rfl (fun _ _ _ h => h) (.cons .here rfl .nil) rfl ?_
        refine RunA.val (i := 21) rfl (by kernel_rfl) (by kernel_rfl) (Val.sub' rfl rfl (IntWalk.i64_in _ ⟨by omega, by omega⟩)) rfl rfl rfl (fun _ _ _ h => h) (.cons .here rfl .nil) rfl ?_
        refine RunA.val (i := 22) rfl (by kernel_rfl) (by kernel_rfl) (Val.strFrom (a := s.length - t.length) rfl (by show some (Value.int _ _) = some (Value.int _ _); congr 2; first | omega | (exfalso; simp at g27')) und_9 (by omega)) rfl rfl rfl (fun _ _ _ h => h) (.cons .here rfl .nil) rfl ?_
        refine RunA.toB (by kernel_rfl) ?_
        refine RunB.one (i := 23) (by kernel_rfl) ?_
        refine RunI.callP rfl (isCall_func rfl ent_128) rfl rfl rfl (fun w hm => whole_calls t _ ht (by simp; omega) w) (RunK.toB ?_)
        refine RunB.one (i := 24) (by kernel_rfl) ?_
        refine RunI.val rfl (Val.pure rfl) rfl rfl rfl (RunK.toB ?_)
        refine RunB.one (i := 25) (by kernel_rfl) ?_
        refine RunI.val rfl (Val.pure rfl) rfl rfl rfl (RunK.toB ?_)
        refine RunB.done (by kernel_rfl) ?_
        exact RunE.join0  (Sub.consE (t := 4) (v := .bool (suitsE h t s)) rfl (by simp_all [suitsE] <;> (intros; omega)) (Sub.skip rfl (Sub.skip rfl (Sub.skip rfl (Sub.skip rfl (Sub.skip rfl (Sub.skip rfl (Sub.skip rfl (Sub.skip rfl (Sub.skip rfl (Sub.skip rfl (Sub.skip rfl (Sub.skip rfl (Sub.skip rfl (Sub.skip rfl (Sub.skip rfl (Sub.skip rfl (Sub.skip rfl (Sub.skip rfl (Sub.skip rfl (Sub.skip rfl (Sub.skip rfl (Sub.skip rfl (Sub.skip rfl (Sub.skip rfl (Sub.skip rfl (Sub.skip rfl (Sub.skip rfl (Sub.skip rfl (Sub.refl _)))))))))))))))))))))))))))))) (Pick.refl _)
      · intro g27
        have g27' := g27; clear g27
        try simp only [decide_eq_true_eq, decide_eq_false_iff_not, Bool.not_eq_true', Bool.not_eq_false', Bool.and_eq_true, Bool.or_eq_true, Bool.and_eq_false_iff, Bool.or_eq_false_iff, Int.not_le, Int.not_lt] at g27'
        refine RunA.no (i := 15) rfl (by kernel_rfl) (by kernel_rfl) rfl rfl rfl (fun _ _ _ h => h) (.cons .here rfl .nil) rfl ?_
        refine RunA.no (i := 16) rfl (by kernel_rfl) (by kernel_rfl) rfl rfl rfl (fun _ _ _ h => h) (.cons .here rfl .nil) rfl ?_
        refine RunA.no (i := 17) rfl (by kernel_rfl) (by kernel_rfl) rfl rfl rfl (fun _ _ _ h => h) (.cons .here rfl .nil) rfl ?_
        refine RunA.no (i := 18) rfl (by kernel_rfl) (by kernel_rfl) rfl rfl rfl (fun _ _ _ h => h) (.cons .here rfl .nil) rfl ?_
        refine RunA.no (i := 19) rfl (by kernel_rfl) (by kernel_rfl) rfl rfl rfl (fun _ _ _ h => h) (.cons .here rfl .nil) rfl ?_
        refine RunA.no (i := 20) rfl (by kernel_rfl) (by kernel_rfl) rfl rfl rfl (fun _ _ _ h => h) (.cons .here rfl .nil) rfl ?_
        refine RunA.no (i := 21) rfl (by kernel_rfl) (by kernel_rfl) rfl rfl rfl (fun _ _ _ h => h) (.cons .here rfl .nil) rfl ?_
        refine RunA.no (i := 22) rfl (by kernel_rfl) (by kernel_rfl) rfl rfl rfl (fun _ _ _ h => h) (.cons .here rfl .nil) rfl ?_
        refine RunA.toB (by kernel_rfl) ?_
        refine RunB.one (i := 23) (by kernel_rfl) ?_
        refine RunI.no rfl rfl rfl rfl (RunK.toB ?_)
        refine RunB.one (i := 24) (by kernel_rfl) ?_
        refine RunI.val rfl (Val.pure rfl) rfl rfl rfl (RunK.toB ?_)
        refine RunB.one (i := 25) (by kernel_rfl) ?_
        refine RunI.val rfl (Val.pure rfl) rfl rfl rfl (RunK.toB ?_)
        refine RunB.done (by kernel_rfl) ?_
        exact RunE.join0  (Sub.consE (t := 4) (v := .bool (suitsE h t s)) rfl (by simp_all [suitsE] <;> (intros; omega)) (Sub.skip rfl (Sub.skip rfl (Sub.skip rfl (Sub.skip rfl (Sub.skip rfl (Sub.skip rfl (Sub.skip rfl (Sub.skip rfl (Sub.skip rfl (Sub.skip rfl (Sub.skip rfl (Sub.skip rfl (Sub.skip rfl (Sub.skip rfl (Sub.skip rfl (Sub.skip rfl (Sub.skip rfl (Sub.skip rfl (Sub.skip rfl (Sub.skip rfl (Sub.skip rfl (Sub.skip rfl (Sub.skip rfl (Sub.skip rfl (Sub.skip rfl (Sub.skip rfl (Sub.skip rfl (Sub.skip rfl (Sub.refl _)))))))))))))))))))))))))))))) (.cons .here rfl .nil)
    · intro g19
      have g19' := g19; clear g19
      try simp only [decide_eq_true_eq, decide_eq_false_iff_not, Bool.not_eq_true', Bool.not_eq_false', Bool.and_eq_true, Bool.or_eq_true, Bool.and_eq_false_iff, Bool.or_eq_false_iff, Int.not_le, Int.not_lt] at g19'
      refine RunA.no (i := 7) rfl (by kernel_rfl) (by kernel_rfl) rfl rfl rfl (fun _ _ _ h => h) (.cons .here rfl .nil) rfl ?_
      refine RunA.no (i := 8) rfl (by kernel_rfl) (by kernel_rfl) rfl rfl rfl (fun _ _ _ h => h) (.cons .here rfl .nil) rfl ?_
      refine RunA.no (i := 9) rfl (by kernel_rfl) (by kernel_rfl) rfl rfl rfl (fun _ _ _ h => h) (.cons .here rfl .nil) rfl ?_
      refine RunA.no (i := 10) rfl (by kernel_rfl) (by kernel_rfl) rfl rfl rfl (fun _ _ _ h => h) (.cons .here rfl .nil) rfl ?_
      refine RunA.no (i := 11) rfl (by kernel_rfl) (by kernel_rfl) rfl rfl rfl (fun _ _ _ h => h) (.cons .here rfl .nil) rfl ?_
      refine RunA.one (i := 12) (by kernel_rfl) (by kernel_rfl) ?_
      refine RunI.no rfl rfl rfl rfl (RunK.toA (.cons .here rfl .nil) (.cons .here rfl .nil) rfl ?_)
      refine RunA.val (i := 13) rfl (by kernel_rfl) (by kernel_rfl) (Val.pure rfl) rfl rfl rfl (fun _ _ _ h => h) (.cons .here rfl .nil) rfl ?_
      refine RunA.val (i := 14) rfl (by kernel_rfl) (by kernel_rfl) (Val.pure rfl) rfl rfl rfl (fun _ _ _ h => h) (.cons .here rfl .nil) rfl ?_
      refine RunA.ways (dj := 27) rfl ?_ ?_
      · intro g27
        have g27' := g27; clear g27
        try simp only [decide_eq_true_eq, decide_eq_false_iff_not, Bool.not_eq_true', Bool.not_eq_false', Bool.and_eq_true, Bool.or_eq_true, Bool.and_eq_false_iff, Bool.or_eq_false_iff, Int.not_le, Int.not_lt] at g27'
        refine RunA.val (i := 15) rfl (by kernel_rfl) (by kernel_rfl) (Val.fieldAddr rfl fld_131_1) rfl rfl rfl (fun _ _ _ h => h) (.cons .here rfl .nil) rfl ?_
        refine RunA.val (i := 16) rfl (by kernel_rfl) (by kernel_rfl) (Val.load_one rfl (.head _) ty_129 rfl) rfl rfl rfl (fun _ _ _ h => h) (.cons .here rfl .nil) rfl ?_
        refine RunA.val (i := 17) rfl (by kernel_rfl) (by kernel_rfl) (Val.pure rfl) rfl rfl rfl (fun _ _ _ h => h) (.cons .here rfl .nil) rfl ?_
        refine RunA.val (i := 18) rfl (by kernel_rfl) (by kernel_rfl) (Val.pure rfl) rfl rfl rfl (fun _ _ _ h => h) (.cons .here rfl .nil) rfl ?_
        refine RunA.val (i := 19) rfl (by kernel_rfl) (by kernel_rfl) (Val.lenS rfl und_9) rfl rfl rfl (fun _ _ _ h => h) (.cons .here rfl .nil) rfl ?_
        refine RunA.val (i := 20) rfl (by kernel_rfl) (by kernel_rfl) (Val.pure rfl) rfl rfl rfl (fun _ _ _ h => h) (.cons .here rfl .nil) rfl ?_
        refine RunA.val (i := 21) rfl (by kernel_rfl) (by kernel_rfl) (Val.sub' rfl rfl (IntWalk.i64_in _ ⟨by omega, by omega⟩)) rfl rfl rfl (fun _ _ _ h => h) (.cons .here rfl .nil) rfl ?_
        refine RunA.val (i := 22) rfl (by kernel_rfl) (by kernel_rfl) (Val.strFrom (a := s.length - t.length) rfl (by show some (Value.int _ _) = some (Value.int _ _); congr 2; first | omega | (exfalso; simp at g27')) und_9 (by omega)) rfl rfl rfl (fun _ _ _ h => h) (.cons .here rfl .nil) rfl ?_
        refine RunA.toB (by kernel_rfl) ?_
        refine RunB.one (i := 23) (by kernel_rfl) ?_
        refine RunI.callP rfl (isCall_func rfl ent_128) rfl rfl rfl (fun w hm => whole_calls t _ ht (by simp; omega) w) (RunK.toB ?_)
        refine RunB.one (i := 24) (by kernel_rfl) ?_
        refine RunI.val rfl (Val.pure rfl) rfl rfl rfl (RunK.toB ?_)
        refine RunB.one (i := 25) (by kernel_rfl) ?_
        refine RunI.val rfl (Val.pure rfl) rfl rfl rfl (RunK.toB ?_)
        refine RunB.done (by kernel_rfl) ?_
        exact RunE.join0  (Sub.consE (t := 4) (v := .bool (suitsE h t s)) rfl (by simp_all [suitsE] <;> (intros; omega)) (Sub.skip rfl (Sub.skip rfl (Sub.skip rfl (Sub.skip rfl (Sub.skip rfl (Sub.skip rfl (Sub.skip rfl (Sub.skip rfl (Sub.skip rfl (Sub.skip rfl (Sub.skip rfl (Sub.skip rfl (Sub.skip rfl (Sub.skip rfl (Sub.skip rfl (Sub.skip rfl (Sub.skip rfl (Sub.skip rfl (Sub.skip rfl (Sub.skip rfl (Sub.skip rfl (Sub.skip rfl (Sub.skip rfl (Sub.skip rfl (Sub.skip rfl (Sub.skip rfl (Sub.skip rfl (Sub.skip rfl (Sub.refl _)))))))))))))))))))))))))))))) (.cons .here rfl .nil)
      · intro g27
        have g27' := g27; clear g27
        try simp only [decide_eq_true_eq, decide_eq_false_iff_not, Bool.not_eq_true', Bool.not_eq_false', Bool.and_eq_true, Bool.or_eq_true, Bool.and_eq_false_iff, Bool.or_eq_false_iff, Int.not_le, Int.not_lt] at g27'
        refine RunA.no (i := 15) rfl (by kernel_rfl) (by kernel_rfl) rfl rfl rfl (fun _ _ _ h => h) (.cons .here rfl .nil) rfl ?_
        refine RunA.no (i := 16) rfl (by kernel_rfl) (by kernel_rfl) rfl rfl rfl (fun _ _ _ h => h) (.cons .here rfl .nil) rfl ?_
        refine RunA.no (i := 17) rfl (by kernel_rfl) (by kernel_rfl) rfl rfl rfl (fun _ _ _ h => h) (.cons .here rfl .nil) rfl ?_
        refine RunA.no (i := 18) rfl (by kernel_rfl) (by kernel_rfl) rfl rfl rfl (fun _ _ _ h => h) (.cons .here rfl .nil) rfl ?_
        refine RunA.no (i := 19) rfl (by kernel_rfl) (by kernel_rfl) rfl rfl rfl (fun _ _ _ h => h) (.cons .here rfl .nil) rfl ?_
        refine RunA.no (i := 20) rfl (by kernel_rfl) (by kernel_rfl) rfl rfl rfl (fun _ _ _ h => h) (.cons .here rfl .nil) rfl ?_
        refine RunA.no (i := 21) rfl (by kernel_rfl) (by kernel_rfl) rfl rfl rfl (fun _ _ _ h => h) (.cons .here rfl .nil) rfl ?_
        refine RunA.no (i := 22) rfl (by kernel_rfl) (by kernel_rfl) rfl rfl rfl (fun _ _ _ h => h) (.cons .here rfl .nil) rfl ?_
        refine RunA.toB (by kernel_rfl) ?_
        refine RunB.one (i := 23) (by kernel_rfl) ?_
        refine RunI.no rfl rfl rfl rfl (RunK.toB ?_)
        refine RunB.one (i := 24) (by kernel_rfl) ?_
        refine RunI.val rfl (Val.pure rfl) rfl rfl rfl (RunK.toB ?_)
        refine RunB.one (i := 25) (by kernel_rfl) ?_
        refine RunI.val rfl (Val.pure rfl) rfl rfl rfl (RunK.toB ?_)
        refine RunB.done (by kernel_rfl) ?_
        exact RunE.join0  (Sub.consE (t := 4) (v := .bool (suitsE h t s)) rfl (by simp_all [suitsE] <;> (intros; omega)) (Sub.skip rfl (Sub.skip rfl (Sub.skip rfl (Sub.skip rfl (Sub.skip rfl (Sub.skip rfl (Sub.skip rfl (Sub.skip rfl (Sub.skip rfl (Sub.skip rfl (Sub.skip rfl (Sub.skip rfl (Sub.skip rfl (Sub.skip rfl (Sub.skip rfl (Sub.skip rfl (Sub.skip rfl (Sub.skip rfl (Sub.skip rfl (Sub.skip rfl (Sub.skip rfl (Sub.skip rfl (Sub.skip rfl (Sub.skip rfl (Sub.skip rfl (Sub.skip rfl (Sub.skip rfl (Sub.skip rfl (Sub.refl _)))))))))))))))))))))))))))))) (.cons .here rfl .nil)
  refine J0.out ?_
  refine RunE.next ?_
  refine RunC.ret ?_
  exact RunE.retP (.r1 rfl (.tmp rfl)) (by first | rfl | simp)
theorem indexByte_calls (s : Str) (W : World) : Calls Tryd.prog 107 #[.string (bs s), .int .u8 42] W (Pure (.int .i64 (Lib.indexByte s 42)) W) := by
  refine calls_start Tryd.func107 rfl rfl ?_
  refine RunC.seq ?_
  refine RunC.region ?_
  refine RunL.val (Val.pure rfl) rfl rfl rfl ?_
  refine RunL.nil ?_
  refine RunE.next ?_
  refine RunC.seq ?_
  refine RunC.region ?_
  refine RunL.val (Val.pure rfl) rfl rfl rfl ?_
  refine RunL.val (Val.pure rfl) rfl rfl rfl ?_
  refine RunL.val (Val.ext Tryd.func111 (by kernel_rfl) (by kernel_rfl) (by kernel_rfl) (e := Extern.BytealgIndexByte.indexByte) (by kernel_rfl) rfl (fun w => Lib.run_indexByteString (bs s) 42 w)) rfl rfl rfl ?_
  refine RunL.val (Val.pure rfl) rfl rfl rfl ?_
  refine RunL.nil ?_
  refine RunE.next ?_
  refine RunC.ret ?_
  exact RunE.retP (.r1 rfl (.tmp rfl)) (by first | rfl | simp)
theorem index_calls (s : Str) (W : World) : Calls Tryd.prog 104 #[.string (bs s), .string (bs [42])] W (Pure (.int .i64 (Lib.indexByte s 42)) W) := by
  refine calls_start Tryd.func104 rfl rfl ?_
  refine RunC.seq ?_
  refine RunC.region ?_
  refine RunL.val (Val.pure rfl) rfl rfl rfl ?_
  refine RunL.nil ?_
  refine RunE.next ?_
  refine RunC.seq ?_
  refine RunC.region ?_
  refine RunL.val (Val.pure rfl) rfl rfl rfl ?_
  refine RunL.val (Val.lenS rfl und_9) rfl rfl rfl ?_
  refine RunL.val (Val.pure rfl) rfl rfl rfl ?_
  refine RunL.nil ?_
  refine RunE.next ?_
  refine RunC.seq ?_
  refine RunC.block ?_
  refine RunC.seq ?_
  refine RunC.region ?_
  iterate 3 refine RunL.val (Val.pure rfl) rfl rfl rfl ?_
  refine RunL.orPart (dj := 19) (dp := 23) 4 rfl (fun g19 => by
    have g19' := g19
    try simp only [decide_eq_true_eq, decide_eq_false_iff_not, Bool.not_eq_true', Bool.not_eq_false', Bool.and_eq_true, Bool.or_eq_true, Bool.and_eq_false_iff, Bool.or_eq_false_iff, Int.not_le, Int.not_lt] at g19'
    refine RunL.val (Val.pure rfl) rfl rfl rfl ?_
    refine RunL.val (Val.pure rfl) rfl rfl rfl ?_
    refine RunL.val (Val.eqlStr rfl rfl) rfl rfl rfl ?_
    refine RunL.val (Val.pure rfl) rfl rfl rfl ?_
    exact RunL.segEnd (Sub.cons rfl (Sub.skip rfl (Sub.skip rfl (Sub.skip rfl (Sub.skip rfl (Sub.same rfl (by rw [g19]) (Sub.refl _))))))) (List.Sublist.refl _)
  ) (fun g19 => by
    have g19' := g19
    try simp only [decide_eq_true_eq, decide_eq_false_iff_not, Bool.not_eq_true', Bool.not_eq_false', Bool.and_eq_true, Bool.or_eq_true, Bool.and_eq_false_iff, Bool.or_eq_false_iff, Int.not_le, Int.not_lt] at g19'
    iterate 3 refine RunL.no rfl rfl rfl ?_
    refine RunL.val (Val.pure rfl) rfl rfl rfl ?_
    exact RunL.segEnd (Sub.cons rfl (Sub.skip rfl (Sub.skip rfl (Sub.skip rfl (Sub.skip rfl (Sub.same rfl (by rw [g19]) (Sub.refl _))))))) (List.Sublist.refl _)
  ) ?_
  refine RunL.val (Val.pure rfl) rfl rfl rfl ?_
  refine RunL.nil ?_
  refine RunE.next ?_
  refine RunC.cond rfl ?_ ?_
  · intro c0
    have c0' := c0; clear c0
    try simp only [decide_eq_true_eq, decide_eq_false_iff_not, Bool.not_eq_true', Bool.not_eq_false', Bool.and_eq_true, Bool.or_eq_true, Bool.and_eq_false_iff, Bool.or_eq_false_iff, Int.not_le, Int.not_lt] at c0'
    refine RunC.seq ?_
    refine RunC.region ?_
    refine RunL.val (Val.pure rfl) rfl rfl rfl ?_
    refine RunL.nil ?_
    refine RunE.next ?_
    refine RunC.ret ?_
    refine RunE.block_ret ?_
    refine RunE.pass_ret ?_
    exact RunE.retP (.r1 rfl (.tmp rfl)) (by rcases c0' with h | h; (simp at h); (subst h; rfl))
  · intro c0
    have c0' := c0; clear c0
    try simp only [decide_eq_true_eq, decide_eq_false_iff_not, Bool.not_eq_true', Bool.not_eq_false', Bool.and_eq_true, Bool.or_eq_true, Bool.and_eq_false_iff, Bool.or_eq_false_iff, Int.not_le, Int.not_lt] at c0'
    refine RunC.seq ?_
    refine RunC.region ?_
    iterate 3 refine RunL.val (Val.pure rfl) rfl rfl rfl ?_
    refine RunL.nil ?_
    refine RunE.next ?_
    refine RunC.cond rfl ?_ (fun h => absurd h (by simp))
    intro c1
    clear c1
    refine RunC.seq ?_
    refine RunC.region ?_
    refine RunL.val (Val.pure rfl) rfl rfl rfl ?_
    refine RunL.val (Val.pure rfl) rfl rfl rfl ?_
    refine RunL.val (Val.strIndex rfl rfl und_9 (by decide) (c := 42) rfl) rfl rfl rfl ?_
    refine RunL.callP (isCall_func rfl ent_107) rfl rfl rfl (fun w hm => indexByte_calls s w) ?_
    refine RunL.val (Val.pure rfl) rfl rfl rfl ?_
    refine RunL.nil ?_
    refine RunE.next ?_
    refine RunC.ret ?_
    refine RunE.block_ret ?_
    refine RunE.pass_ret ?_
    exact RunE.retP (.r1 rfl (.tmp rfl)) (by first | rfl | simp)
theorem cut_calls (s : Str) (hl : s.length ≤ 1000000) (W : World) : Calls Tryd.prog 98 #[.string (bs s), .string (bs [42])] W (Pure (match starAt s with | some i => .tuple #[.string (bs (s.take i)), .string (bs (s.drop (i + 1))), .bool true] | none => .tuple #[.string (bs s), .string (bs []), .bool false]) W) := by
  have hi := starAt_idx s
  cases h : starAt s with
  | some i =>
    rw [h] at hi
    simp only at hi
    have hlt := starAt_lt h
    refine calls_start Tryd.func98 rfl rfl ?_
    refine RunC.seq ?_
    refine RunC.region ?_
    iterate 3 refine RunL.val (Val.pure rfl) rfl rfl rfl ?_
    refine RunL.nil ?_
    refine RunE.next ?_
    refine RunC.seq ?_
    refine RunC.seq ?_
    refine RunC.region ?_
    refine RunL.val (Val.pure rfl) rfl rfl rfl ?_
    refine RunL.val (Val.pure rfl) rfl rfl rfl ?_
    refine RunL.callP (isCall_func rfl ent_104) rfl rfl rfl (fun w hm => (by have h9 := index_calls s w; rw [hi] at h9; exact h9)) ?_
    refine RunL.val (Val.pure rfl) rfl rfl rfl ?_
    refine RunL.nil ?_
    refine RunE.next ?_
    refine RunC.seq ?_
    refine RunC.region ?_
    refine RunL.val (Val.pure rfl) rfl rfl rfl ?_
    refine RunL.val (Val.pure rfl) rfl rfl rfl ?_
    refine RunL.nil ?_
    refine RunE.next ?_
    refine RunC.cond rfl ?_ (fun h => absurd h (by simp))
    intro c0
    clear c0
    refine RunC.seq ?_
    refine RunC.draw 10 fol_ .nil ?_
    refine RunA.val (i := 0) rfl (by kernel_rfl) (by kernel_rfl) (Val.pure rfl) rfl rfl rfl (fun _ _ _ h => h) .nil rfl ?_
    refine RunA.val (i := 1) rfl (by kernel_rfl) (by kernel_rfl) (Val.pure rfl) rfl rfl rfl (fun _ _ _ h => h) .nil rfl ?_
    refine RunA.val (i := 2) rfl (by kernel_rfl) (by kernel_rfl) (Val.strTo rfl rfl und_9 (by omega)) rfl rfl rfl (fun _ _ _ h => h) .nil rfl ?_
    refine RunA.val (i := 3) rfl (by kernel_rfl) (by kernel_rfl) (Val.pure rfl) rfl rfl rfl (fun _ _ _ h => h) .nil rfl ?_
    refine RunA.val (i := 4) rfl (by kernel_rfl) (by kernel_rfl) (Val.pure rfl) rfl rfl rfl (fun _ _ _ h => h) .nil rfl ?_
    refine RunA.val (i := 5) rfl (by kernel_rfl) (by kernel_rfl) (Val.pure rfl) rfl rfl rfl (fun _ _ _ h => h) .nil rfl ?_
    refine RunA.val (i := 6) rfl (by kernel_rfl) (by kernel_rfl) (Val.lenS rfl und_9) rfl rfl rfl (fun _ _ _ h => h) .nil rfl ?_
    refine RunA.val (i := 7) rfl (by kernel_rfl) (by kernel_rfl) (Val.addN (a := i) (b := 1) (i + 1) rfl rfl rfl (i64_inN (by omega))) rfl rfl rfl (fun _ _ _ h => h) .nil rfl ?_
    refine RunA.val (i := 8) rfl (by kernel_rfl) (by kernel_rfl) (Val.strFrom rfl rfl und_9 (by omega)) rfl rfl rfl (fun _ _ _ h => h) .nil rfl ?_
    refine RunA.val (i := 9) rfl (by kernel_rfl) (by kernel_rfl) (Val.pure rfl) rfl rfl rfl (fun _ _ _ h => h) .nil rfl ?_
    refine RunA.toB (by kernel_rfl) ?_
    refine RunB.one (i := 10) (by kernel_rfl) ?_
    refine RunI.val rfl (Val.pure rfl) rfl rfl rfl (RunK.toB ?_)
    refine RunB.one (i := 11) (by kernel_rfl) ?_
    refine RunI.val rfl (Val.pure rfl) rfl rfl rfl (RunK.toB ?_)
    refine RunB.done (by kernel_rfl) ?_
    refine RunE.next ?_
    refine RunC.ret ?_
    refine RunE.pass_ret ?_
    exact RunE.retP (.r3 rfl (.tmp rfl) (.tmp rfl) (.tmp rfl)) (by first | rfl | simp)
  | none =>
    rw [h] at hi
    simp only at hi
    refine calls_start Tryd.func98 rfl rfl ?_
    refine RunC.seq ?_
    refine RunC.region ?_
    iterate 3 refine RunL.val (Val.pure rfl) rfl rfl rfl ?_
    refine RunL.nil ?_
    refine RunE.next ?_
    refine RunC.seq ?_
    refine RunC.seq ?_
    refine RunC.region ?_
    refine RunL.val (Val.pure rfl) rfl rfl rfl ?_
    refine RunL.val (Val.pure rfl) rfl rfl rfl ?_
    refine RunL.callP (isCall_func rfl ent_104) rfl rfl rfl (fun w hm => (by have h9 := index_calls s w; rw [hi] at h9; exact h9)) ?_
    refine RunL.val (Val.pure rfl) rfl rfl rfl ?_
    refine RunL.nil ?_
    refine RunE.next ?_
    refine RunC.seq ?_
    refine RunC.region ?_
    refine RunL.val (Val.pure rfl) rfl rfl rfl ?_
    refine RunL.val (Val.pure rfl) rfl rfl rfl ?_
    refine RunL.nil ?_
    refine RunE.next ?_
    refine RunC.cond rfl (fun h => absurd h (by simp)) ?_
    intro c0
    clear c0
    refine RunC.skip ?_
    refine RunE.next ?_
    refine RunC.seq ?_
    refine RunC.region ?_
    iterate 4 refine RunL.val (Val.pure rfl) rfl rfl rfl ?_
    refine RunL.nil ?_
    refine RunE.next ?_
    refine RunC.ret ?_
    exact RunE.retP (.r3 rfl (.tmp rfl) (.tmp rfl) (.tmp rfl)) (by first | rfl | simp)
theorem cutS_calls (s : Str) (hl : s.length ≤ 1000000) (W : World) : Calls Tryd.prog 93 #[.string (bs s), .string (bs [42])] W (Pure (match starAt s with | some i => .tuple #[.string (bs (s.take i)), .string (bs (s.drop (i + 1))), .bool true] | none => .tuple #[.string (bs s), .string (bs []), .bool false]) W) := by
  have hc := fun w => cut_calls s hl w
  cases h : starAt s with
  | some i =>
    simp only [h] at hc
    refine calls_start Tryd.func93 rfl rfl ?_
    refine RunC.seq ?_
    refine RunC.region ?_
    iterate 3 refine RunL.val (Val.pure rfl) rfl rfl rfl ?_
    refine RunL.nil ?_
    refine RunE.next ?_
    refine RunC.seq ?_
    refine RunC.region ?_
    refine RunL.val (Val.pure rfl) rfl rfl rfl ?_
    refine RunL.val (Val.pure rfl) rfl rfl rfl ?_
    refine RunL.callP (isCall_func rfl ent_98) rfl rfl rfl (fun w hm => hc w) ?_
    iterate 6 refine RunL.val (Val.pure rfl) rfl rfl rfl ?_
    refine RunL.nil ?_
    refine RunE.next ?_
    refine RunC.ret ?_
    exact RunE.retP (.r3 rfl (.tmp rfl) (.tmp rfl) (.tmp rfl)) (by first | rfl | simp)
  | none =>
    simp only [h] at hc
    refine calls_start Tryd.func93 rfl rfl ?_
    refine RunC.seq ?_
    refine RunC.region ?_
    iterate 3 refine RunL.val (Val.pure rfl) rfl rfl rfl ?_
    refine RunL.nil ?_
    refine RunE.next ?_
    refine RunC.seq ?_
    refine RunC.region ?_
    refine RunL.val (Val.pure rfl) rfl rfl rfl ?_
    refine RunL.val (Val.pure rfl) rfl rfl rfl ?_
    refine RunL.callP (isCall_func rfl ent_98) rfl rfl rfl (fun w hm => hc w) ?_
    iterate 6 refine RunL.val (Val.pure rfl) rfl rfl rfl ?_
    refine RunL.nil ?_
    refine RunE.next ?_
    refine RunC.ret ?_
    exact RunE.retP (.r3 rfl (.tmp rfl) (.tmp rfl) (.tmp rfl)) (by first | rfl | simp)
theorem pieceOf_calls (s : Str) (hl : s.length ≤ 1000000) (W : World) : Calls Tryd.prog 81 #[.string (bs s)] W (Pure (pieceV s) W) := by
  have hc := fun w => cutS_calls s hl w
  cases h : starAt s with
  | some i =>
    simp only [h] at hc
    refine calls_start Tryd.func81 rfl rfl ?_
    refine RunC.seq ?_
    refine RunC.region ?_
    refine RunL.val (Val.pure rfl) rfl rfl rfl ?_
    refine RunL.nil ?_
    refine RunE.next ?_
    refine RunC.seq ?_
    refine RunC.seq ?_
    refine RunC.region ?_
    refine RunL.val (Val.pure rfl) rfl rfl rfl ?_
    refine RunL.callP (isCall_func rfl ent_93) rfl rfl rfl (fun w hm => hc w) ?_
    iterate 7 refine RunL.val (Val.pure rfl) rfl rfl rfl ?_
    refine RunL.nil ?_
    refine RunE.next ?_
    refine RunC.seq ?_
    refine RunC.region ?_
    refine RunL.val (Val.pure rfl) rfl rfl rfl ?_
    refine RunL.nil ?_
    refine RunE.next ?_
    refine RunC.cond rfl ?_ (fun h => absurd h (by simp))
    intro c0
    clear c0
    refine RunC.seq ?_
    refine RunC.region ?_
    refine RunL.val (Val.pure rfl) rfl rfl rfl ?_
    refine RunL.val (Val.pure rfl) rfl rfl rfl ?_
    refine RunL.val (Val.build (parts := [(0, .tmp 13), (1, .tmp 14)]) rfl zero_131 places_131 rfl) rfl rfl rfl ?_
    refine RunL.val (Val.makeInterface rfl noif_131) rfl rfl rfl ?_
    refine RunL.val (Val.pure rfl) rfl rfl rfl ?_
    refine RunL.nil ?_
    refine RunE.next ?_
    refine RunC.ret ?_
    refine RunE.pass_ret ?_
    exact RunE.retP (.r1 rfl (.tmp rfl)) (by simp [pieceV, pieceT, pieceP, h])
  | none =>
    simp only [h] at hc
    refine calls_start Tryd.func81 rfl rfl ?_
    refine RunC.seq ?_
    refine RunC.region ?_
    refine RunL.val (Val.pure rfl) rfl rfl rfl ?_
    refine RunL.nil ?_
    refine RunE.next ?_
    refine RunC.seq ?_
    refine RunC.seq ?_
    refine RunC.region ?_
    refine RunL.val (Val.pure rfl) rfl rfl rfl ?_
    refine RunL.callP (isCall_func rfl ent_93) rfl rfl rfl (fun w hm => hc w) ?_
    iterate 7 refine RunL.val (Val.pure rfl) rfl rfl rfl ?_
    refine RunL.nil ?_
    refine RunE.next ?_
    refine RunC.seq ?_
    refine RunC.region ?_
    refine RunL.val (Val.pure rfl) rfl rfl rfl ?_
    refine RunL.nil ?_
    refine RunE.next ?_
    refine RunC.cond rfl (fun h => absurd h (by simp)) ?_
    intro c0
    clear c0
    refine RunC.skip ?_
    refine RunE.next ?_
    refine RunC.seq ?_
    refine RunC.region ?_
    refine RunL.val (Val.pure rfl) rfl rfl rfl ?_
    refine RunL.val (Val.makeInterface rfl noif_129) rfl rfl rfl ?_
    refine RunL.val (Val.pure rfl) rfl rfl rfl ?_
    refine RunL.nil ?_
    refine RunE.next ?_
    refine RunC.ret ?_
    exact RunE.retP (.r1 rfl (.tmp rfl)) (by simp [pieceV, pieceT, pieceP, h])
end Go.Proofs.YtlhdalcipflblaaDoor
/- The facts on the tables of types and on the entries of functions that the walks use. Written by program. -/
set_option linter.unusedSimpArgs false
set_option linter.unusedVariables false
namespace Go.Proofs.YtlhdalcipflblaaDoor
open Go Go.Eng
theorem ap_69 : apB Tryd.prog 69 = some (95, 3, 40) := by kernel_rfl
theorem ap_70 : apB Tryd.prog 70 = some (68, 1, 8) := by kernel_rfl
theorem arrN_118 : arrNB Tryd.prog 118 = some (2, 2) := by kernel_rfl
theorem ent_129 : Enters Tryd.prog 129 := enters_of Tryd.func129 (by kernel_rfl) rfl
theorem ent_46 : Enters Tryd.prog 46 := enters_of Tryd.func46 (by kernel_rfl) rfl
theorem ent_62 : Enters Tryd.prog 62 := enters_of Tryd.func62 (by kernel_rfl) rfl
theorem ent_63 : Enters Tryd.prog 63 := enters_of Tryd.func63 (by kernel_rfl) rfl
theorem ent_64 : Enters Tryd.prog 64 := enters_of Tryd.func64 (by kernel_rfl) rfl
theorem ent_71 : Enters Tryd.prog 71 := enters_of Tryd.func71 (by kernel_rfl) rfl
theorem ent_74 : Enters Tryd.prog 74 := enters_of Tryd.func74 (by kernel_rfl) rfl
theorem ent_75 : Enters Tryd.prog 75 := enters_of Tryd.func75 (by kernel_rfl) rfl
theorem ent_76 : Enters Tryd.prog 76 := enters_of Tryd.func76 (by kernel_rfl) rfl
theorem ent_78 : Enters Tryd.prog 78 := enters_of Tryd.func78 (by kernel_rfl) rfl
theorem ent_79 : Enters Tryd.prog 79 := enters_of Tryd.func79 (by kernel_rfl) rfl
theorem ent_80 : Enters Tryd.prog 80 := enters_of Tryd.func80 (by kernel_rfl) rfl
theorem ent_81 : Enters Tryd.prog 81 := enters_of Tryd.func81 (by kernel_rfl) rfl
theorem ent_82 : Enters Tryd.prog 82 := enters_of Tryd.func82 (by kernel_rfl) rfl
theorem ent_83 : Enters Tryd.prog 83 := enters_of Tryd.func83 (by kernel_rfl) rfl
theorem ent_86 : Enters Tryd.prog 86 := enters_of Tryd.func86 (by kernel_rfl) rfl
theorem ent_90 : Enters Tryd.prog 90 := enters_of Tryd.func90 (by kernel_rfl) rfl
theorem ent_91 : Enters Tryd.prog 91 := enters_of Tryd.func91 (by kernel_rfl) rfl
theorem ent_92 : Enters Tryd.prog 92 := enters_of Tryd.func92 (by kernel_rfl) rfl
theorem ent_94 : Enters Tryd.prog 94 := enters_of Tryd.func94 (by kernel_rfl) rfl
theorem fld_117_0 : fieldB Tryd.prog 117 0 = some 0 := by kernel_rfl
theorem fld_117_1 : fieldB Tryd.prog 117 1 = some 1 := by kernel_rfl
theorem fld_25_0 : fieldB Tryd.prog 25 0 = some 0 := by kernel_rfl
theorem fld_25_1 : fieldB Tryd.prog 25 1 = some 1 := by kernel_rfl
theorem fld_46_0 : fieldB Tryd.prog 46 0 = some 0 := by kernel_rfl
theorem fld_46_1 : fieldB Tryd.prog 46 1 = some 1 := by kernel_rfl
theorem fld_73_1 : fieldB Tryd.prog 73 1 = some 2 := by kernel_rfl
theorem fld_73_2 : fieldB Tryd.prog 73 2 = some 3 := by kernel_rfl
theorem fld_95_0 : fieldB Tryd.prog 95 0 = some 0 := by kernel_rfl
theorem fld_95_1 : fieldB Tryd.prog 95 1 = some 1 := by kernel_rfl
theorem fld_95_2 : fieldB Tryd.prog 95 2 = some 2 := by kernel_rfl
theorem meth_129_pairworks_heap_suits (v : Value) (w : World) : (method (Tryd.prog.types.size + Made.depth) 129 v "pairworks/heap.suits").run Tryd.prog w = .ok (128, v) w := by kernel_rfl
theorem meth_131_pairworks_heap_suits (v : Value) (w : World) : (method (Tryd.prog.types.size + Made.depth) 131 v "pairworks/heap.suits").run Tryd.prog w = .ok (129, v) w := by kernel_rfl
theorem places_117 : placesB Tryd.prog 117 = some [(0, 1), (1, 1)] := by kernel_rfl
theorem places_118 : placesB Tryd.prog 118 = some [(0, 2), (2, 2)] := by kernel_rfl
theorem places_73 : placesB Tryd.prog 73 = some [(0, 2), (2, 1), (3, 1), (4, 1)] := by kernel_rfl
theorem places_95 : placesB Tryd.prog 95 = some [(0, 1), (1, 1), (2, 1)] := by kernel_rfl
theorem sl_22 : slB Tryd.prog 22 = some (46, 2) := by kernel_rfl
theorem sl_23 : slB Tryd.prog 23 = some (50, 3) := by kernel_rfl
theorem sl_44 : slB Tryd.prog 44 = some (9, 1) := by kernel_rfl
theorem sl_69 : slB Tryd.prog 69 = some (95, 3) := by kernel_rfl
theorem sl_70 : slB Tryd.prog 70 = some (68, 1) := by kernel_rfl
theorem ty_113 : tyB Tryd.prog 113 = some (false, 1) := by kernel_rfl
theorem ty_115 : tyB Tryd.prog 115 = some (false, 1) := by kernel_rfl
theorem ty_117 : tyB Tryd.prog 117 = some (true, 2) := by kernel_rfl
theorem ty_118 : tyB Tryd.prog 118 = some (true, 4) := by kernel_rfl
theorem ty_22 : tyB Tryd.prog 22 = some (false, 1) := by kernel_rfl
theorem ty_23 : tyB Tryd.prog 23 = some (false, 1) := by kernel_rfl
theorem ty_25 : tyB Tryd.prog 25 = some (true, 2) := by kernel_rfl
theorem ty_44 : tyB Tryd.prog 44 = some (false, 1) := by kernel_rfl
theorem ty_46 : tyB Tryd.prog 46 = some (true, 2) := by kernel_rfl
theorem ty_50 : tyB Tryd.prog 50 = some (true, 3) := by kernel_rfl
theorem ty_68 : tyB Tryd.prog 68 = some (false, 1) := by kernel_rfl
theorem ty_69 : tyB Tryd.prog 69 = some (false, 1) := by kernel_rfl
theorem ty_70 : tyB Tryd.prog 70 = some (false, 1) := by kernel_rfl
theorem ty_93 : tyB Tryd.prog 93 = some (false, 1) := by kernel_rfl
theorem ty_95 : tyB Tryd.prog 95 = some (true, 3) := by kernel_rfl
theorem zero_117 : zeroB Tryd.prog 117 = some [.nilIface, .nilFunc] := by kernel_rfl
theorem zero_118 : zeroB Tryd.prog 118 = some [.nilIface, .nilFunc, .nilIface, .nilFunc] := by kernel_rfl
theorem zero_3 : zeroB Tryd.prog 3 = some [.int .i64 0] := by kernel_rfl
theorem zero_46 : zeroB Tryd.prog 46 = some [.int .i64 0, .slice none 0 0] := by kernel_rfl
theorem zero_50 : zeroB Tryd.prog 50 = some [.int .i64 0, .string ⟨#[]⟩, .string ⟨#[]⟩] := by kernel_rfl
theorem zero_68 : zeroB Tryd.prog 68 = some [.int .u64 0] := by kernel_rfl
theorem zero_73 : zeroB Tryd.prog 73 = some [.slice none 0 0, .slice none 0 0, .slice none 0 0, .slice none 0 0, .map none] := by kernel_rfl
theorem zero_93 : zeroB Tryd.prog 93 = some [.nilFunc] := by kernel_rfl
theorem zero_95 : zeroB Tryd.prog 95 = some [.int .i64 0, .string ⟨#[]⟩, .string ⟨#[]⟩] := by kernel_rfl
end Go.Proofs.YtlhdalcipflblaaDoor
/- Walks of package heap: which boxes with a heap are valid. -/
set_option linter.unusedSimpArgs false
set_option linter.unusedVariables false
namespace Go.Hp
open Go Go.Eng Go.Pw1
def visB : List Bx → List Bx
  | [] => []
  | b :: l => if badBox b then [b] else b :: visB l
theorem visB_all : ∀ {l : List Bx}, l.any badBox = false → visB l = l
  | [], _ => rfl
  | b :: l, h => by
    simp only [List.any_cons, Bool.or_eq_false_iff] at h
    simp only [visB, h.1, Bool.false_eq_true, if_false, visB_all h.2]
theorem visB_hit : ∀ {l : List Bx} {k : Nat} (hk : k < l.length), (l.take k).any badBox = false → badBox l[k] = true → visB l = l.take (k + 1)
  | b :: l, 0, _, _, h => by simp at h; simp [visB, h]
  | b :: l, k + 1, hk, h1, h2 => by
    simp only [List.take_succ_cons, List.any_cons, Bool.or_eq_false_iff] at h1
    simp only [List.getElem_cons_succ] at h2
    simp only [visB, h1.1, Bool.false_eq_true, if_false, List.take_succ_cons]
    rw [visB_hit (by simpa using hk) h1.2 h2]
theorem many_snoc {l : List BxA} {k : Nat} (hk : k < l.length) : manyX ((l.take (k + 1)).map (·.bx)) = manyX ((l.take k).map (·.bx)) + l[k].bx.titles.length := by
  rw [List.take_succ_eq_append_getElem hk]
  simp only [manyX, List.map_append, List.sum_append, List.map_cons, List.map_nil, List.sum_cons, List.sum_nil]
  omega
theorem many_le {l : List BxA} (h : ∀ x ∈ l, x.bx.titles.length ≤ 1000) : ∀ k, manyX ((l.take k).map (·.bx)) ≤ k * 1000
  | 0 => by simp [manyX]
  | k + 1 => by
    have ih := many_le h k
    rcases Nat.lt_or_ge k l.length with hk | hk
    · rw [many_snoc hk]
      have h2 := h _ (List.getElem_mem hk)
      rw [Nat.add_mul, Nat.one_mul]
      exact Nat.add_le_add ih h2
    · have e1 : l.take (k + 1) = l := List.take_of_length_le (by omega)
      have e2 : l.take k = l := List.take_of_length_le hk
      rw [e2] at ih
      rw [e1, Nat.add_mul]
      exact Nat.le_trans ih (Nat.le_add_right _ _)
theorem Sl.mono1 {W w : World} {p : Option Addr} {b o sz : Nat} {xs : List (List Value)} {k : Nat} {ob : Obj} {news : Blks} (h : Sl W p b o sz xs) (hz : 0 < sz) (hm : Mem W [(k, ob)] news w) (hc : xs ≠ [] → b ≠ k) : Sl w p b o sz xs :=
  h.mono' hz hm fun hx ob' hin => by
    rcases List.mem_cons.1 hin with h1 | h1
    · exact hc hx (Prod.mk.inj h1).1
    · cases h1
theorem strs_ne {l : List Str} (h : strsV l ≠ []) : l ≠ [] := by rintro rfl; exact h rfl
structure TSmall (x : BxA) : Prop where
  n : x.bx.titles.length ≤ 1000
  t : ∀ t ∈ x.bx.titles, t.length ≤ 1000000
structure MSm (m : MxA) : Prop where
  bx : m.bxs.length ≤ 1000
  cd : m.cards.length ≤ 1000
  ti : ∀ x ∈ m.bxs, TSmall x
  tx : ∀ t ∈ m.cards, t.number.length ≤ 1000000 ∧ t.text.length ≤ 1000000
theorem ne_of_T {W w : World} {chg news : Blks} {b b' : Nat} {c c' : Array Value} {T T' : TypeId} {f f' : Nat × Nat} (hm : Mem W chg news w) (h : (b, .cells c T f) ∈ chg ++ news) (h' : (b', .cells c' T' f') ∈ chg ++ news) (hT : T ≠ T') : b ≠ b' := fun e => by
  have h1 := hm.at h
  have h2 := hm.at h'
  rw [e, h2] at h1
  simp at h1
  exact hT h1.2.1.symm
theorem mixed_ret {m : MxA} (h : (m.bxs.length : Int) ≤ 4 ∧ (m.cards.length : Int) ≤ 8) : ((!(m.bxs.map (·.bx)).any badBox && decide (((manyX (visB (m.bxs.map (·.bx))) : Nat) : Int) ≤ 12)) && !m.cards.any badCard) = mixedX m.pl := by
  have n1 : m.bxs.length ≤ 4 := by omega
  have n2 : m.cards.length ≤ 8 := by omega
  have h12 : ∀ x : Nat, decide (((x : Nat) : Int) ≤ 12) = decide (x ≤ 12) := fun x => decide_eq_decide.2 (by omega)
  rcases Bool.eq_false_or_eq_true ((m.bxs.map (·.bx)).any badBox) with hb | hb
  · unfold mixedX MxA.pl
    simp only [hb]
    simp
  · unfold mixedX MxA.pl
    rw [visB_all hb]
    simp only [hb, List.length_map, n1, n2, h12]
    simp
theorem mixed_no {m : MxA} (h : 4 < (m.bxs.length : Int) ∨ 8 < (m.cards.length : Int)) : mixedX m.pl = false := by
  rw [Bool.eq_false_iff]
  intro h2
  unfold mixedX at h2
  simp only [Bool.and_eq_true] at h2
  obtain ⟨⟨⟨⟨a1, a2⟩, _⟩, _⟩, _⟩ := h2
  have a3 : (m.bxs.map (·.bx)).length ≤ 4 := of_decide_eq_true a1
  have a4 : m.cards.length ≤ 8 := of_decide_eq_true a2
  rw [List.length_map] at a3
  omega
theorem bx_any (l : List BxA) : idxF (fun x : BxA => badBox x.bx) l = idxF badBox (l.map (·.bx)) := by
  induction l with
  | nil => rfl
  | cons x l ih => simp only [List.map_cons, idxF, ih]
end Go.Hp
namespace Go.Proofs.YtlhdalcipflblaaDoor
open Go Go.Eng Go.Hp Go.Pw1

theorem indexS_calls (l : List Str) (hsm : ∀ t ∈ l, t.length ≤ 1000000) (hl : l.length ≤ 1000) (q : Option Addr) (b o cap : Nat) (W : World) (hS : Sl W q b o 1 (strsV l)) :
    Calls Tryd.prog 86 #[.slice q l.length cap, .func (.func 71) #[] #[]] W (Pure (.int .i64 (idxF badTitle l)) W) := by
  refine calls_start Tryd.func86 rfl rfl ?_
  refine RunC.seq ?_
  refine RunC.region ?_
  refine RunL.val (Val.pure rfl) rfl rfl rfl ?_
  refine RunL.nil ?_
  refine RunE.next ?_
  refine RunC.seq ?_
  refine RunC.seq ?_
  refine RunC.region ?_
  refine RunL.val (Val.pure rfl) rfl rfl rfl ?_
  refine RunL.val (Val.len_sl rfl sl_44) rfl rfl rfl ?_
  refine RunL.val (Val.pure rfl) rfl rfl rfl ?_
  refine RunL.nil ?_
  refine RunE.next ?_
  refine RunC.block ?_
  refine RunC.loopK (l.length) (fun k q => (8, .int .i64 (k : Int)) :: q) (fun _ => _) (fun _ => []) (fun k => (l.take k).any badTitle = false) (by simp) rfl (Sub.consE (t := 8) rfl rfl (Sub.cons (t := 0) rfl (Sub.cons (t := 1) rfl (Sub.cons (t := 7) rfl (Sub.nil _))))) .nil ?_
  intro k kN kI
  refine RunC.seq ?_
  refine RunC.region ?_
  refine RunL.val (Val.pure rfl) rfl rfl rfl ?_
  refine RunL.nil ?_
  refine RunE.next ?_
  refine RunC.seq ?_
  refine RunC.cond rfl ?_ ?_
  · intro c0
    have c0' := c0; clear c0
    try simp only [decide_eq_true_eq, decide_eq_false_iff_not, Bool.not_eq_true', Bool.not_eq_false', Bool.and_eq_true, Bool.or_eq_true, Bool.and_eq_false_iff, Bool.or_eq_false_iff, Int.not_le, Int.not_lt] at c0'
    have hk : k < l.length := by omega
    refine RunC.skip ?_
    refine RunE.next ?_
    refine RunC.seq ?_
    refine RunC.block ?_
    refine RunC.seq ?_
    refine RunC.region ?_
    refine RunL.val (Val.pure rfl) rfl rfl rfl ?_
    refine RunL.val (Val.pure rfl) rfl rfl rfl ?_
    refine RunL.nil ?_
    refine RunE.next ?_
    refine RunC.seq ?_
    refine RunC.region ?_
    iterate 3 refine RunL.val (Val.pure rfl) rfl rfl rfl ?_
    refine RunL.val (Val.indexAddr_slp rfl rfl sl_44 (by omega) (by omega) (hS.ptrM hk)) rfl rfl rfl ?_
    refine RunL.val (Val.load_gen rfl (fun w hm => hS.loadM1 (by decide) hm (by simp) ty_9 hk (v := .string (bs l[k])) rfl)) rfl rfl rfl ?_
    refine RunL.callP (isCall_value rfl rfl ent_71) rfl rfl rfl (fun w hm => badTitle_calls _ (hsm _ (List.getElem_mem hk)) w) ?_
    refine RunL.nil ?_
    refine RunE.next ?_
    refine RunC.cond rfl ?_ ?_
    · intro c1
      have c1' := c1; clear c1
      try simp only [decide_eq_true_eq, decide_eq_false_iff_not, Bool.not_eq_true', Bool.not_eq_false', Bool.and_eq_true, Bool.or_eq_true, Bool.and_eq_false_iff, Bool.or_eq_false_iff, Int.not_le, Int.not_lt] at c1'
      refine RunC.seq ?_
      refine RunC.region ?_
      refine RunL.val (Val.pure rfl) rfl rfl rfl ?_
      refine RunL.val (Val.pure rfl) rfl rfl rfl ?_
      refine RunL.nil ?_
      refine RunE.next ?_
      refine RunC.ret ?_
      refine RunE.block_ret ?_
      refine RunE.pass_ret ?_
      refine RunE.pass_ret ?_
      refine RunE.block_ret ?_
      refine RunE.pass_ret ?_
      exact RunE.retP (.r1 rfl (.tmp rfl)) (by rw [idxF_hit badTitle l k hk kI c1'])
    · intro c1
      have c1' := c1; clear c1
      try simp only [decide_eq_true_eq, decide_eq_false_iff_not, Bool.not_eq_true', Bool.not_eq_false', Bool.and_eq_true, Bool.or_eq_true, Bool.and_eq_false_iff, Bool.or_eq_false_iff, Int.not_le, Int.not_lt] at c1'
      refine RunC.skip ?_
      refine RunE.block_normal ?_
      refine RunE.next ?_
      refine RunC.region ?_
      refine RunL.val (Val.add rfl rfl (IntWalk.i64_in _ ⟨by omega, by omega⟩)) rfl rfl rfl ?_
      refine RunL.val (Val.pure rfl) rfl rfl rfl ?_
      refine RunL.nil ?_
      exact RunE.round (by omega) (any_snoc hk kI c1') rfl (Sub.consE (t := 8) rfl rfl (Sub.cons (t := 0) rfl (Sub.cons (t := 1) rfl (Sub.cons (t := 7) rfl (Sub.nil _))))) .nil
  · intro c0
    have c0' := c0; clear c0
    try simp only [decide_eq_true_eq, decide_eq_false_iff_not, Bool.not_eq_true', Bool.not_eq_false', Bool.and_eq_true, Bool.or_eq_true, Bool.and_eq_false_iff, Bool.or_eq_false_iff, Int.not_le, Int.not_lt] at c0'
    obtain rfl : k = l.length := by omega
    rw [List.take_length] at kI
    refine RunC.exit ?_
    refine RunE.pass_exit ?_
    refine RunE.pass_exit ?_
    refine RunE.block_here ?_
    refine RunE.next ?_
    refine RunC.seq ?_
    refine RunC.region ?_
    refine RunL.val (Val.pure rfl) rfl rfl rfl ?_
    refine RunL.nil ?_
    refine RunE.next ?_
    refine RunC.ret ?_
    exact RunE.retP (.r1 rfl (.tmp rfl)) (by rw [idxF_none badTitle l kI])
theorem containsS_calls (l : List Str) (hsm : ∀ t ∈ l, t.length ≤ 1000000) (hl : l.length ≤ 1000) (q : Option Addr) (b o cap : Nat) (W : World) (hS : Sl W q b o 1 (strsV l)) :
    Calls Tryd.prog 75 #[.slice q l.length cap, .func (.func 71) #[] #[]] W (Pure (.bool (l.any badTitle)) W) := by
  refine calls_start Tryd.func75 rfl rfl ?_
  refine RunC.seq ?_
  refine RunC.region ?_
  refine RunL.val (Val.pure rfl) rfl rfl rfl ?_
  refine RunL.nil ?_
  refine RunE.next ?_
  refine RunC.seq ?_
  refine RunC.region ?_
  refine RunL.val (Val.pure rfl) rfl rfl rfl ?_
  refine RunL.val (Val.pure rfl) rfl rfl rfl ?_
  refine RunL.callP (isCall_func rfl ent_86) rfl rfl rfl (fun w hm => indexS_calls l hsm hl q b o cap w (hS.mono (by decide) hm (by simp))) ?_
  refine RunL.val (Val.pure rfl) rfl rfl rfl ?_
  refine RunL.val (Val.pure rfl) rfl rfl rfl ?_
  refine RunL.nil ?_
  refine RunE.next ?_
  refine RunC.ret ?_
  exact RunE.retP (.r1 rfl (.tmp rfl)) (by rw [← idxF_any])
theorem indexT_calls (l : List Tn) (hsm : ∀ t ∈ l, t.number.length ≤ 1000000 ∧ t.text.length ≤ 1000000) (hl : l.length ≤ 1000) (q : Option Addr) (b o cap : Nat) (W : World) (hS : Sl W q b o 3 (l.map Tn.cells)) :
    Calls Tryd.prog 91 #[.slice q l.length cap, .func (.func 76) #[] #[]] W (Pure (.int .i64 (idxF badCard l)) W) := by
  refine calls_start Tryd.func91 rfl rfl ?_
  refine RunC.seq ?_
  refine RunC.region ?_
  refine RunL.val (Val.pure rfl) rfl rfl rfl ?_
  refine RunL.nil ?_
  refine RunE.next ?_
  refine RunC.seq ?_
  refine RunC.seq ?_
  refine RunC.region ?_
  refine RunL.val (Val.pure rfl) rfl rfl rfl ?_
  refine RunL.val (Val.len_sl rfl sl_23) rfl rfl rfl ?_
  refine RunL.val (Val.pure rfl) rfl rfl rfl ?_
  refine RunL.nil ?_
  refine RunE.next ?_
  refine RunC.block ?_
  refine RunC.loopK (l.length) (fun k q => (8, .int .i64 (k : Int)) :: q) (fun _ => _) (fun _ => []) (fun k => (l.take k).any badCard = false) (by simp) rfl (Sub.consE (t := 8) rfl rfl (Sub.cons (t := 0) rfl (Sub.cons (t := 1) rfl (Sub.cons (t := 7) rfl (Sub.nil _))))) .nil ?_
  intro k kN kI
  refine RunC.seq ?_
  refine RunC.region ?_
  refine RunL.val (Val.pure rfl) rfl rfl rfl ?_
  refine RunL.nil ?_
  refine RunE.next ?_
  refine RunC.seq ?_
  refine RunC.cond rfl ?_ ?_
  · intro c0
    have c0' := c0; clear c0
    try simp only [decide_eq_true_eq, decide_eq_false_iff_not, Bool.not_eq_true', Bool.not_eq_false', Bool.and_eq_true, Bool.or_eq_true, Bool.and_eq_false_iff, Bool.or_eq_false_iff, Int.not_le, Int.not_lt] at c0'
    have hk : k < l.length := by omega
    refine RunC.skip ?_
    refine RunE.next ?_
    refine RunC.seq ?_
    refine RunC.block ?_
    refine RunC.seq ?_
    refine RunC.region ?_
    refine RunL.val (Val.pure rfl) rfl rfl rfl ?_
    refine RunL.val (Val.pure rfl) rfl rfl rfl ?_
    refine RunL.nil ?_
    refine RunE.next ?_
    refine RunC.seq ?_
    refine RunC.region ?_
    iterate 3 refine RunL.val (Val.pure rfl) rfl rfl rfl ?_
    refine RunL.val (Val.indexAddr_slp rfl rfl sl_23 (by omega) (by omega) (hS.ptrM hk)) rfl rfl rfl ?_
    refine RunL.val (Val.load_gen rfl (fun w hm => hS.loadM (by decide) hm (by simp) ty_50 hk)) rfl rfl rfl ?_
    refine RunL.callP (isCall_value rfl rfl ent_76) rfl rfl rfl (fun w hm => badCard_calls _ (hsm _ (List.getElem_mem hk)) w) ?_
    refine RunL.nil ?_
    refine RunE.next ?_
    refine RunC.cond rfl ?_ ?_
    · intro c1
      have c1' := c1; clear c1
      try simp only [decide_eq_true_eq, decide_eq_false_iff_not, Bool.not_eq_true', Bool.not_eq_false', Bool.and_eq_true, Bool.or_eq_true, Bool.and_eq_false_iff, Bool.or_eq_false_iff, Int.not_le, Int.not_lt] at c1'
      refine RunC.seq ?_
      refine RunC.region ?_
      refine RunL.val (Val.pure rfl) rfl rfl rfl ?_
      refine RunL.val (Val.pure rfl) rfl rfl rfl ?_
      refine RunL.nil ?_
      refine RunE.next ?_
      refine RunC.ret ?_
      refine RunE.block_ret ?_
      refine RunE.pass_ret ?_
      refine RunE.pass_ret ?_
      refine RunE.block_ret ?_
      refine RunE.pass_ret ?_
      exact RunE.retP (.r1 rfl (.tmp rfl)) (by rw [idxF_hit badCard l k hk kI c1'])
    · intro c1
      have c1' := c1; clear c1
      try simp only [decide_eq_true_eq, decide_eq_false_iff_not, Bool.not_eq_true', Bool.not_eq_false', Bool.and_eq_true, Bool.or_eq_true, Bool.and_eq_false_iff, Bool.or_eq_false_iff, Int.not_le, Int.not_lt] at c1'
      refine RunC.skip ?_
      refine RunE.block_normal ?_
      refine RunE.next ?_
      refine RunC.region ?_
      refine RunL.val (Val.add rfl rfl (IntWalk.i64_in _ ⟨by omega, by omega⟩)) rfl rfl rfl ?_
      refine RunL.val (Val.pure rfl) rfl rfl rfl ?_
      refine RunL.nil ?_
      exact RunE.round (by omega) (any_snoc hk kI c1') rfl (Sub.consE (t := 8) rfl rfl (Sub.cons (t := 0) rfl (Sub.cons (t := 1) rfl (Sub.cons (t := 7) rfl (Sub.nil _))))) .nil
  · intro c0
    have c0' := c0; clear c0
    try simp only [decide_eq_true_eq, decide_eq_false_iff_not, Bool.not_eq_true', Bool.not_eq_false', Bool.and_eq_true, Bool.or_eq_true, Bool.and_eq_false_iff, Bool.or_eq_false_iff, Int.not_le, Int.not_lt] at c0'
    obtain rfl : k = l.length := by omega
    rw [List.take_length] at kI
    refine RunC.exit ?_
    refine RunE.pass_exit ?_
    refine RunE.pass_exit ?_
    refine RunE.block_here ?_
    refine RunE.next ?_
    refine RunC.seq ?_
    refine RunC.region ?_
    refine RunL.val (Val.pure rfl) rfl rfl rfl ?_
    refine RunL.nil ?_
    refine RunE.next ?_
    refine RunC.ret ?_
    exact RunE.retP (.r1 rfl (.tmp rfl)) (by rw [idxF_none badCard l kI])
theorem containsT_calls (l : List Tn) (hsm : ∀ t ∈ l, t.number.length ≤ 1000000 ∧ t.text.length ≤ 1000000) (hl : l.length ≤ 1000) (q : Option Addr) (b o cap : Nat) (W : World) (hS : Sl W q b o 3 (l.map Tn.cells)) :
    Calls Tryd.prog 79 #[.slice q l.length cap, .func (.func 76) #[] #[]] W (Pure (.bool (l.any badCard)) W) := by
  refine calls_start Tryd.func79 rfl rfl ?_
  refine RunC.seq ?_
  refine RunC.region ?_
  refine RunL.val (Val.pure rfl) rfl rfl rfl ?_
  refine RunL.nil ?_
  refine RunE.next ?_
  refine RunC.seq ?_
  refine RunC.region ?_
  refine RunL.val (Val.pure rfl) rfl rfl rfl ?_
  refine RunL.val (Val.pure rfl) rfl rfl rfl ?_
  refine RunL.callP (isCall_func rfl ent_91) rfl rfl rfl (fun w hm => indexT_calls l hsm hl q b o cap w (hS.mono (by decide) hm (by simp))) ?_
  refine RunL.val (Val.pure rfl) rfl rfl rfl ?_
  refine RunL.val (Val.pure rfl) rfl rfl rfl ?_
  refine RunL.nil ?_
  refine RunE.next ?_
  refine RunC.ret ?_
  exact RunE.retP (.r1 rfl (.tmp rfl)) (by rw [← idxF_any])
theorem badBox_calls (x : BxA) (hx : TSmall x) (n : Nat) (hn : n ≤ 10000000) (bM bF : Nat) (W : World) (h4 : W.heap[bM]? = some (.cells [.int .i64 (n : Int)].toArray 3 (0, 0))) (h3 : W.heap[bF]? = some (.cells [.func (.func 71) #[] #[]].toArray 93 (0, 0))) (hne : bF ≠ bM)
    (hT : TOk W x) (hb : x.bx.titles ≠ [] → x.b ≠ bM) :
    Calls Tryd.prog 74 #[.agg x.cells.toArray, .pointer (some ⟨bM, 0, none⟩), .pointer (some ⟨bF, 0, none⟩)] W (TurnsX bM (.cells [.int .i64 ((n + x.bx.titles.length : Nat) : Int)].toArray 3 (0, 0)) (fun _ : Unit => .bool (badBox x.bx)) (fun _ => True) W) := by
  have hx1 := hx.n
  refine calls_start_chg h4 Tryd.func74 rfl rfl ?_
  refine RunC.seq ?_
  refine RunC.region ?_
  refine RunL.new (New.box rfl) rfl rfl rfl (fun b3 => ?_)
  refine RunL.val (Val.pure rfl) rfl rfl rfl ?_
  refine RunL.nil ?_
  refine RunE.next ?_
  refine RunC.seq ?_
  refine RunC.region ?_
  refine RunL.val (Val.load_one rfl (.head _) ty_3 rfl) rfl rfl rfl ?_
  refine RunL.val (Val.fieldAddr rfl fld_46_1) rfl rfl rfl ?_
  refine RunL.val (Val.load_one rfl (.tail _ (.head _)) ty_44 rfl) rfl rfl rfl ?_
  refine RunL.val (Val.len_sl rfl sl_44) rfl rfl rfl ?_
  refine RunL.val (Val.addN (a := n) (b := x.bx.titles.length) (n + x.bx.titles.length) rfl rfl rfl (i64_inN (by omega))) rfl rfl rfl ?_
  refine RunL.sto (Sto.store_chg rfl rfl .here ty_3 rfl rfl) rfl rfl ?_
  refine RunL.nil ?_
  refine RunE.next ?_
  refine RunC.seq ?_
  refine RunC.region ?_
  refine RunL.val (Val.fieldAddr rfl fld_46_0) rfl rfl rfl ?_
  refine RunL.val (Val.load_one rfl (.tail _ (.head _)) ty_3 rfl) rfl rfl rfl ?_
  refine RunL.callP (isCall_func rfl ent_53) rfl rfl rfl (fun w hm => hwithin_calls _ _ _ w) ?_
  refine RunL.val (Val.pure rfl) rfl rfl rfl ?_
  refine RunL.val (Val.pure rfl) rfl rfl rfl ?_
  refine RunL.orPart (dj := 14) (dp := 19) 5 rfl (fun g14 => by
    have g14' := g14
    try simp only [decide_eq_true_eq, decide_eq_false_iff_not, Bool.not_eq_true', Bool.not_eq_false', Bool.and_eq_true, Bool.or_eq_true, Bool.and_eq_false_iff, Bool.or_eq_false_iff, Int.not_le, Int.not_lt] at g14'
    refine RunL.val (Val.fieldAddr rfl fld_46_1) rfl rfl rfl ?_
    refine RunL.val (Val.load_one rfl (.tail _ (.head _)) ty_44 rfl) rfl rfl rfl ?_
    refine RunL.val (Val.oload_one rfl h3 (by simp [hne]) ty_93 rfl) rfl rfl rfl ?_
    refine RunL.callP (isCall_func rfl ent_75) rfl rfl rfl (fun w hm => containsS_calls x.bx.titles hx.t hx1 x.q x.b x.o x.cap w (Sl.mono1 hT (by decide) hm (fun h => hb (strs_ne h)))) ?_
    refine RunL.val (Val.pure rfl) rfl rfl rfl ?_
    exact RunL.segEnd (Sub.cons rfl (Sub.skip rfl (Sub.skip rfl (Sub.skip rfl (Sub.skip rfl (Sub.skip rfl (Sub.same rfl (by rw [g14]) (Sub.refl _)))))))) (List.Sublist.refl _)
  ) (fun g14 => by
    have g14' := g14
    try simp only [decide_eq_true_eq, decide_eq_false_iff_not, Bool.not_eq_true', Bool.not_eq_false', Bool.and_eq_true, Bool.or_eq_true, Bool.and_eq_false_iff, Bool.or_eq_false_iff, Int.not_le, Int.not_lt] at g14'
    iterate 4 refine RunL.no rfl rfl rfl ?_
    refine RunL.val (Val.pure rfl) rfl rfl rfl ?_
    exact RunL.segEnd (Sub.cons rfl (Sub.skip rfl (Sub.skip rfl (Sub.skip rfl (Sub.skip rfl (Sub.skip rfl (Sub.same rfl (by rw [g14]) (Sub.refl _)))))))) (List.Sublist.refl _)
  ) ?_
  refine RunL.val (Val.pure rfl) rfl rfl rfl ?_
  refine RunL.nil ?_
  refine RunE.next ?_
  refine RunC.ret ?_
  exact RunE.retX () trivial (.r1 rfl (.tmp rfl)) (by simp [badBox])
theorem indexB_calls (l : List BxA) (hsm : ∀ x ∈ l, TSmall x) (hl : l.length ≤ 1000) (q : Option Addr) (b o cap bM bF : Nat) (W : World) (h4 : W.heap[bM]? = some (.cells [.int .i64 ((0 : Nat) : Int)].toArray 3 (0, 0))) (h3 : W.heap[bF]? = some (.cells [.func (.func 71) #[] #[]].toArray 93 (0, 0))) (hne : bF ≠ bM)
    (hS : Sl W q b o 2 (l.map BxA.cells)) (hb : l ≠ [] → b ≠ bM) (hT : ∀ x ∈ l, TOk W x) (hTb : ∀ x ∈ l, x.bx.titles ≠ [] → x.b ≠ bM) :
    Calls Tryd.prog 90 #[.slice q l.length cap, .func (.func 74) #[] #[.pointer (some ⟨bM, 0, none⟩), .pointer (some ⟨bF, 0, none⟩)]] W
      (TurnsX bM (.cells [.int .i64 ((manyX (visB (l.map (·.bx))) : Nat) : Int)].toArray 3 (0, 0)) (fun _ : Unit => .int .i64 (idxF badBox (l.map (·.bx)))) (fun _ => True) W) := by
  have hml := many_le fun x hx => (hsm x hx).n
  refine calls_start_chg h4 Tryd.func90 rfl rfl ?_
  refine RunC.seq ?_
  refine RunC.region ?_
  refine RunL.val (Val.pure rfl) rfl rfl rfl ?_
  refine RunL.nil ?_
  refine RunE.next ?_
  refine RunC.seq ?_
  refine RunC.seq ?_
  refine RunC.region ?_
  refine RunL.val (Val.pure rfl) rfl rfl rfl ?_
  refine RunL.val (Val.len_sl rfl sl_22) rfl rfl rfl ?_
  refine RunL.val (Val.pure rfl) rfl rfl rfl ?_
  refine RunL.nil ?_
  refine RunE.next ?_
  refine RunC.block ?_
  refine RunC.loopK (l.length) (fun k q => (8, .int .i64 (k : Int)) :: q) (fun k => [(bM, .cells [.int .i64 ((manyX ((l.take k).map (·.bx)) : Nat) : Int)].toArray 3 (0, 0))]) (fun _ => []) (fun k => ((l.take k).map (·.bx)).any badBox = false) (by simp) rfl (Sub.consE (t := 8) rfl rfl (Sub.cons (t := 0) rfl (Sub.cons (t := 1) rfl (Sub.cons (t := 7) rfl (Sub.nil _))))) .nil ?_
  intro k kN kI
  refine RunC.seq ?_
  refine RunC.region ?_
  refine RunL.val (Val.pure rfl) rfl rfl rfl ?_
  refine RunL.nil ?_
  refine RunE.next ?_
  refine RunC.seq ?_
  refine RunC.cond rfl ?_ ?_
  · intro c0
    have c0' := c0; clear c0
    try simp only [decide_eq_true_eq, decide_eq_false_iff_not, Bool.not_eq_true', Bool.not_eq_false', Bool.and_eq_true, Bool.or_eq_true, Bool.and_eq_false_iff, Bool.or_eq_false_iff, Int.not_le, Int.not_lt] at c0'
    have hk : k < l.length := by omega
    obtain ⟨x, hx⟩ : ∃ x, l[k] = x := ⟨_, rfl⟩
    have hxm : x ∈ l := hx ▸ List.getElem_mem hk
    have hmk := hml k
    refine RunC.skip ?_
    refine RunE.next ?_
    refine RunC.seq ?_
    refine RunC.block ?_
    refine RunC.seq ?_
    refine RunC.region ?_
    refine RunL.val (Val.pure rfl) rfl rfl rfl ?_
    refine RunL.val (Val.pure rfl) rfl rfl rfl ?_
    refine RunL.nil ?_
    refine RunE.next ?_
    refine RunC.seq ?_
    refine RunC.region ?_
    iterate 3 refine RunL.val (Val.pure rfl) rfl rfl rfl ?_
    refine RunL.val (Val.indexAddr_slp rfl rfl sl_22 (by omega) (by omega) (hS.ptrM hk)) rfl rfl rfl ?_
    refine RunL.val (Val.load_gen rfl (fun w hm => (Sl.mono1 hS (by decide) hm (fun h => hb (by rintro rfl; exact h rfl))).loadX (by decide) (Mem.refl w) (by simp) ty_46 hk hx)) rfl rfl rfl ?_
    refine RunL.callX_chg (isCall_value rfl rfl ent_74) rfl rfl rfl .here (fun w hm => badBox_calls x (hsm x hxm) _ (by omega) bM bF w (hm.at (.head _)) (hm.old_at h3 (by simp [hne])) hne (Sl.mono1 (hT x hxm) (by decide) hm (fun h => hTb x hxm (strs_ne h))) (hTb x hxm)) (fun x16 hx16 => ?_)
    refine RunL.nil ?_
    refine RunE.next ?_
    refine RunC.cond rfl ?_ ?_
    · intro c1
      have c1' := c1; clear c1
      try simp only [decide_eq_true_eq, decide_eq_false_iff_not, Bool.not_eq_true', Bool.not_eq_false', Bool.and_eq_true, Bool.or_eq_true, Bool.and_eq_false_iff, Bool.or_eq_false_iff, Int.not_le, Int.not_lt] at c1'
      refine RunC.seq ?_
      refine RunC.region ?_
      refine RunL.val (Val.pure rfl) rfl rfl rfl ?_
      refine RunL.val (Val.pure rfl) rfl rfl rfl ?_
      refine RunL.nil ?_
      refine RunE.next ?_
      refine RunC.ret ?_
      refine RunE.block_ret ?_
      refine RunE.pass_ret ?_
      refine RunE.pass_ret ?_
      refine RunE.block_ret ?_
      refine RunE.pass_ret ?_
      rw [List.map_take] at kI
      have hkm : k < (l.map (·.bx)).length := by simpa using hk
      have hbk : badBox (l.map (·.bx))[k] = true := by simp [hx, c1']
      have hv : manyX (visB (l.map (·.bx))) = manyX ((l.take k).map (·.bx)) + x.bx.titles.length := by rw [visB_hit hkm kI hbk, ← List.map_take, many_snoc hk, hx]
      rw [hv]
      exact RunE.retX () trivial (.r1 rfl (.tmp rfl)) (by rw [idxF_hit badBox _ k hkm kI hbk])
    · intro c1
      have c1' := c1; clear c1
      try simp only [decide_eq_true_eq, decide_eq_false_iff_not, Bool.not_eq_true', Bool.not_eq_false', Bool.and_eq_true, Bool.or_eq_true, Bool.and_eq_false_iff, Bool.or_eq_false_iff, Int.not_le, Int.not_lt] at c1'
      refine RunC.skip ?_
      refine RunE.block_normal ?_
      refine RunE.next ?_
      refine RunC.region ?_
      refine RunL.val (Val.add rfl rfl (IntWalk.i64_in _ ⟨by omega, by omega⟩)) rfl rfl rfl ?_
      refine RunL.val (Val.pure rfl) rfl rfl rfl ?_
      refine RunL.nil ?_
      exact RunE.round (by omega) (by rw [List.map_take] at kI ⊢; exact any_snoc (by simpa using hk) kI (by simp [hx, c1'])) (by rw [many_snoc hk, hx]) (Sub.consE (t := 8) rfl rfl (Sub.cons (t := 0) rfl (Sub.cons (t := 1) rfl (Sub.cons (t := 7) rfl (Sub.nil _))))) .nil
  · intro c0
    have c0' := c0; clear c0
    try simp only [decide_eq_true_eq, decide_eq_false_iff_not, Bool.not_eq_true', Bool.not_eq_false', Bool.and_eq_true, Bool.or_eq_true, Bool.and_eq_false_iff, Bool.or_eq_false_iff, Int.not_le, Int.not_lt] at c0'
    obtain rfl : k = l.length := by omega
    rw [List.take_length] at kI
    simp only [List.take_length]
    refine RunC.exit ?_
    refine RunE.pass_exit ?_
    refine RunE.pass_exit ?_
    refine RunE.block_here ?_
    refine RunE.next ?_
    refine RunC.seq ?_
    refine RunC.region ?_
    refine RunL.val (Val.pure rfl) rfl rfl rfl ?_
    refine RunL.nil ?_
    refine RunE.next ?_
    refine RunC.ret ?_
    rw [visB_all kI]
    exact RunE.retX () trivial (.r1 rfl (.tmp rfl)) (by rw [idxF_none badBox _ kI])
theorem containsB_calls (l : List BxA) (hsm : ∀ x ∈ l, TSmall x) (hl : l.length ≤ 1000) (q : Option Addr) (b o cap bM bF : Nat) (W : World) (h4 : W.heap[bM]? = some (.cells [.int .i64 ((0 : Nat) : Int)].toArray 3 (0, 0))) (h3 : W.heap[bF]? = some (.cells [.func (.func 71) #[] #[]].toArray 93 (0, 0))) (hne : bF ≠ bM)
    (hS : Sl W q b o 2 (l.map BxA.cells)) (hb : l ≠ [] → b ≠ bM) (hT : ∀ x ∈ l, TOk W x) (hTb : ∀ x ∈ l, x.bx.titles ≠ [] → x.b ≠ bM) :
    Calls Tryd.prog 78 #[.slice q l.length cap, .func (.func 74) #[] #[.pointer (some ⟨bM, 0, none⟩), .pointer (some ⟨bF, 0, none⟩)]] W
      (TurnsX bM (.cells [.int .i64 ((manyX (visB (l.map (·.bx))) : Nat) : Int)].toArray 3 (0, 0)) (fun _ : Unit => .bool ((l.map (·.bx)).any badBox)) (fun _ => True) W) := by
  refine calls_start_chg h4 Tryd.func78 rfl rfl ?_
  refine RunC.seq ?_
  refine RunC.region ?_
  refine RunL.val (Val.pure rfl) rfl rfl rfl ?_
  refine RunL.nil ?_
  refine RunE.next ?_
  refine RunC.seq ?_
  refine RunC.region ?_
  refine RunL.val (Val.pure rfl) rfl rfl rfl ?_
  refine RunL.val (Val.pure rfl) rfl rfl rfl ?_
  refine RunL.callX_chg (isCall_func rfl ent_90) rfl rfl rfl .here (fun w hm => indexB_calls l hsm hl q b o cap bM bF w (hm.at (.head _)) (hm.old_at h3 (by simp [hne])) hne (Sl.mono1 hS (by decide) hm (fun h => hb (by rintro rfl; exact h rfl))) hb (fun x hx => Sl.mono1 (hT x hx) (by decide) hm (fun h => hTb x hx (strs_ne h))) hTb) (fun x7 hx7 => ?_)
  refine RunL.val (Val.pure rfl) rfl rfl rfl ?_
  refine RunL.val (Val.pure rfl) rfl rfl rfl ?_
  refine RunL.nil ?_
  refine RunE.next ?_
  refine RunC.ret ?_
  exact RunE.retX () trivial (.r1 rfl (.tmp rfl)) (by rw [← idxF_any])
theorem isMixed_calls (m : MxA) (hsm : MSm m) (W : World) (hM : MOk W m) : Calls Tryd.prog 62 #[m.v] W (Pure (.bool (mixedX m.pl)) W) := by
  have hs1 := hsm.bx
  have hs2 := hsm.cd
  refine calls_start Tryd.func62 rfl rfl ?_
  refine RunC.seq ?_
  refine RunC.region ?_
  refine RunL.new (New.box rfl) rfl rfl rfl (fun b1 => ?_)
  refine RunL.val (Val.pure rfl) rfl rfl rfl ?_
  refine RunL.nil ?_
  refine RunE.next ?_
  refine RunC.seq ?_
  refine RunC.region ?_
  refine RunL.new (New.alloc zero_93) rfl rfl rfl (fun b3 => ?_)
  refine RunL.sto (Sto.store rfl rfl .here ty_93 rfl rfl) rfl rfl ?_
  refine RunL.nil ?_
  refine RunE.next ?_
  refine RunC.seq ?_
  refine RunC.region ?_
  refine RunL.new (New.alloc zero_3) rfl rfl rfl (fun b4 => ?_)
  refine RunL.sto (Sto.store rfl rfl .here ty_3 rfl rfl) rfl rfl ?_
  refine RunL.nil ?_
  refine RunE.next ?_
  refine RunC.seq ?_
  refine RunC.region ?_
  refine RunL.val (Val.pure rfl) rfl rfl rfl ?_
  refine RunL.val (Val.pure rfl) rfl rfl rfl ?_
  refine RunL.nil ?_
  refine RunE.next ?_
  refine RunC.seq ?_
  refine RunC.region ?_
  refine RunL.val (Val.pure rfl) rfl rfl rfl ?_
  refine RunL.nil ?_
  refine RunE.next ?_
  refine RunC.seq ?_
  refine RunC.region ?_
  refine RunL.val (Val.fieldAddr rfl fld_25_0) rfl rfl rfl ?_
  refine RunL.val (Val.load_one rfl (.tail _ (.tail _ (.head _))) ty_22 rfl) rfl rfl rfl ?_
  refine RunL.val (Val.len_sl rfl sl_22) rfl rfl rfl ?_
  refine RunL.val (Val.pure rfl) rfl rfl rfl ?_
  refine RunL.val (Val.pure rfl) rfl rfl rfl ?_
  refine RunL.andPart (dj := 12) (dp := 17) 5 rfl (fun g12 => by
    have g12' := g12
    try simp only [decide_eq_true_eq, decide_eq_false_iff_not, Bool.not_eq_true', Bool.not_eq_false', Bool.and_eq_true, Bool.or_eq_true, Bool.and_eq_false_iff, Bool.or_eq_false_iff, Int.not_le, Int.not_lt] at g12'
    refine RunL.val (Val.fieldAddr rfl fld_25_1) rfl rfl rfl ?_
    refine RunL.val (Val.load_one rfl (.tail _ (.tail _ (.head _))) ty_23 rfl) rfl rfl rfl ?_
    refine RunL.val (Val.len_sl rfl sl_23) rfl rfl rfl ?_
    refine RunL.val (Val.pure rfl) rfl rfl rfl ?_
    refine RunL.val (Val.pure rfl) rfl rfl rfl ?_
    exact RunL.segEnd (Sub.cons rfl (Sub.skip rfl (Sub.skip rfl (Sub.skip rfl (Sub.skip rfl (Sub.skip rfl (Sub.same rfl (by rw [g12]) (Sub.refl _)))))))) (List.Sublist.refl _)
  ) (fun g12 => by
    have g12' := g12
    try simp only [decide_eq_true_eq, decide_eq_false_iff_not, Bool.not_eq_true', Bool.not_eq_false', Bool.and_eq_true, Bool.or_eq_true, Bool.and_eq_false_iff, Bool.or_eq_false_iff, Int.not_le, Int.not_lt] at g12'
    iterate 4 refine RunL.no rfl rfl rfl ?_
    refine RunL.val (Val.pure rfl) rfl rfl rfl ?_
    exact RunL.segEnd (Sub.cons rfl (Sub.skip rfl (Sub.skip rfl (Sub.skip rfl (Sub.skip rfl (Sub.skip rfl (Sub.same rfl (by rw [g12]) (Sub.refl _)))))))) (List.Sublist.refl _)
  ) ?_
  refine RunL.val (Val.pure rfl) rfl rfl rfl ?_
  refine RunL.ways (dj := 18) rfl ?_ ?_
  · intro g18
    have g18' := g18; clear g18
    try simp only [decide_eq_true_eq, decide_eq_false_iff_not, Bool.not_eq_true', Bool.not_eq_false', Bool.and_eq_true, Bool.or_eq_true, Bool.and_eq_false_iff, Bool.or_eq_false_iff, Int.not_le, Int.not_lt] at g18'
    refine RunL.val (Val.fieldAddr rfl fld_25_0) rfl rfl rfl ?_
    refine RunL.val (Val.load_one rfl (.tail _ (.tail _ (.head _))) ty_22 rfl) rfl rfl rfl ?_
    refine RunL.val (Val.pure rfl) rfl rfl rfl ?_
    refine RunL.callX (isCall_func rfl ent_78) rfl rfl rfl .here (fun w hm => containsB_calls m.bxs hsm.ti hs1 m.q m.b m.o m.cap b4 b3 w (hm.at (.head _)) (hm.at (.tail _ (.head _))) (ne_of_T hm (.tail _ (.head _)) (.head _) (by decide)) (hM.bx.mono (by decide) hm (by simp)) (fun h => hM.bx.ne (by decide) hm (.head _) (by simpa using h)) (fun x hx => (hM.ti x hx).mono (by decide) hm (by simp)) (fun x hx h => (hM.ti x hx).ne (by decide) hm (.head _) (by simpa [strsV] using h))) (fun x22 hx22 => ?_)
    iterate 3 refine RunL.val (Val.pure rfl) rfl rfl rfl ?_
    refine RunL.andPart (dj := 25) (dp := 28) 3 rfl (fun g25 => by
      have g25' := g25
      try simp only [decide_eq_true_eq, decide_eq_false_iff_not, Bool.not_eq_true', Bool.not_eq_false', Bool.and_eq_true, Bool.or_eq_true, Bool.and_eq_false_iff, Bool.or_eq_false_iff, Int.not_le, Int.not_lt] at g25'
      refine RunL.val (Val.load_one rfl (.head _) ty_3 rfl) rfl rfl rfl ?_
      refine RunL.val (Val.pure rfl) rfl rfl rfl ?_
      refine RunL.val (Val.pure rfl) rfl rfl rfl ?_
      exact RunL.segEnd (Sub.cons rfl (Sub.skip rfl (Sub.skip rfl (Sub.skip rfl (Sub.same rfl (by rw [g25]) (Sub.refl _)))))) (List.Sublist.refl _)
    ) (fun g25 => by
      have g25' := g25
      try simp only [decide_eq_true_eq, decide_eq_false_iff_not, Bool.not_eq_true', Bool.not_eq_false', Bool.and_eq_true, Bool.or_eq_true, Bool.and_eq_false_iff, Bool.or_eq_false_iff, Int.not_le, Int.not_lt] at g25'
      refine RunL.no rfl rfl rfl ?_
      refine RunL.no rfl rfl rfl ?_
      refine RunL.val (Val.pure rfl) rfl rfl rfl ?_
      exact RunL.segEnd (Sub.cons rfl (Sub.skip rfl (Sub.skip rfl (Sub.skip rfl (Sub.same rfl (by rw [g25]) (Sub.refl _)))))) (List.Sublist.refl _)
    ) ?_
    refine RunL.val (Val.pure rfl) rfl rfl rfl ?_
    refine RunL.andPart (dj := 29) (dp := 35) 6 rfl (fun g29 => by
      have g29' := g29
      try simp only [decide_eq_true_eq, decide_eq_false_iff_not, Bool.not_eq_true', Bool.not_eq_false', Bool.and_eq_true, Bool.or_eq_true, Bool.and_eq_false_iff, Bool.or_eq_false_iff, Int.not_le, Int.not_lt] at g29'
      refine RunL.val (Val.fieldAddr rfl fld_25_1) rfl rfl rfl ?_
      refine RunL.val (Val.load_one rfl (.tail _ (.tail _ (.head _))) ty_23 rfl) rfl rfl rfl ?_
      refine RunL.val (Val.pure rfl) rfl rfl rfl ?_
      refine RunL.callP (isCall_func rfl ent_79) rfl rfl rfl (fun w hm => containsT_calls m.cards hsm.tx hs2 m.q2 m.b2 m.o2 m.cap2 w (hM.cd.mono (by decide) hm (by simp))) ?_
      refine RunL.val (Val.pure rfl) rfl rfl rfl ?_
      refine RunL.val (Val.pure rfl) rfl rfl rfl ?_
      exact RunL.segEnd (Sub.cons rfl (Sub.skip rfl (Sub.skip rfl (Sub.skip rfl (Sub.skip rfl (Sub.skip rfl (Sub.skip rfl (Sub.same rfl (by rw [g29]) (Sub.refl _))))))))) (List.Sublist.refl _)
    ) (fun g29 => by
      have g29' := g29
      try simp only [decide_eq_true_eq, decide_eq_false_iff_not, Bool.not_eq_true', Bool.not_eq_false', Bool.and_eq_true, Bool.or_eq_true, Bool.and_eq_false_iff, Bool.or_eq_false_iff, Int.not_le, Int.not_lt] at g29'
      iterate 5 refine RunL.no rfl rfl rfl ?_
      refine RunL.val (Val.pure rfl) rfl rfl rfl ?_
      exact RunL.segEnd (Sub.cons rfl (Sub.skip rfl (Sub.skip rfl (Sub.skip rfl (Sub.skip rfl (Sub.skip rfl (Sub.skip rfl (Sub.same rfl (by rw [g29]) (Sub.refl _))))))))) (List.Sublist.refl _)
    ) ?_
    refine RunL.val (Val.pure rfl) rfl rfl rfl ?_
    refine RunL.nil ?_
    refine RunE.next ?_
    refine RunC.ret ?_
    exact RunE.retP (.r1 rfl (.tmp rfl)) (by rw [← mixed_ret g18'])
  · intro g18
    have g18' := g18; clear g18
    try simp only [decide_eq_true_eq, decide_eq_false_iff_not, Bool.not_eq_true', Bool.not_eq_false', Bool.and_eq_true, Bool.or_eq_true, Bool.and_eq_false_iff, Bool.or_eq_false_iff, Int.not_le, Int.not_lt] at g18'
    iterate 5 refine RunL.no rfl rfl rfl ?_
    refine RunL.val (Val.pure rfl) rfl rfl rfl ?_
    refine RunL.val (Val.pure rfl) rfl rfl rfl ?_
    refine RunL.andPart (dj := 25) (dp := 28) 3 rfl (fun g25 => by
      have g25' := g25
      try simp only [decide_eq_true_eq, decide_eq_false_iff_not, Bool.not_eq_true', Bool.not_eq_false', Bool.and_eq_true, Bool.or_eq_true, Bool.and_eq_false_iff, Bool.or_eq_false_iff, Int.not_le, Int.not_lt] at g25'
      refine RunL.val (Val.load_one rfl (.head _) ty_3 rfl) rfl rfl rfl ?_
      refine RunL.val (Val.pure rfl) rfl rfl rfl ?_
      refine RunL.val (Val.pure rfl) rfl rfl rfl ?_
      exact RunL.segEnd (Sub.cons rfl (Sub.skip rfl (Sub.skip rfl (Sub.skip rfl (Sub.same rfl (by rw [g25]) (Sub.refl _)))))) (List.Sublist.refl _)
    ) (fun g25 => by
      have g25' := g25
      try simp only [decide_eq_true_eq, decide_eq_false_iff_not, Bool.not_eq_true', Bool.not_eq_false', Bool.and_eq_true, Bool.or_eq_true, Bool.and_eq_false_iff, Bool.or_eq_false_iff, Int.not_le, Int.not_lt] at g25'
      refine RunL.no rfl rfl rfl ?_
      refine RunL.no rfl rfl rfl ?_
      refine RunL.val (Val.pure rfl) rfl rfl rfl ?_
      exact RunL.segEnd (Sub.cons rfl (Sub.skip rfl (Sub.skip rfl (Sub.skip rfl (Sub.same rfl (by rw [g25]) (Sub.refl _)))))) (List.Sublist.refl _)
    ) ?_
    refine RunL.val (Val.pure rfl) rfl rfl rfl ?_
    refine RunL.andPart (dj := 29) (dp := 35) 6 rfl (fun g29 => by
      have g29' := g29
      try simp only [decide_eq_true_eq, decide_eq_false_iff_not, Bool.not_eq_true', Bool.not_eq_false', Bool.and_eq_true, Bool.or_eq_true, Bool.and_eq_false_iff, Bool.or_eq_false_iff, Int.not_le, Int.not_lt] at g29'
      refine RunL.val (Val.fieldAddr rfl fld_25_1) rfl rfl rfl ?_
      refine RunL.val (Val.load_one rfl (.tail _ (.tail _ (.head _))) ty_23 rfl) rfl rfl rfl ?_
      refine RunL.val (Val.pure rfl) rfl rfl rfl ?_
      refine RunL.callP (isCall_func rfl ent_79) rfl rfl rfl (fun w hm => containsT_calls m.cards hsm.tx hs2 m.q2 m.b2 m.o2 m.cap2 w (hM.cd.mono (by decide) hm (by simp))) ?_
      refine RunL.val (Val.pure rfl) rfl rfl rfl ?_
      refine RunL.val (Val.pure rfl) rfl rfl rfl ?_
      exact RunL.segEnd (Sub.cons rfl (Sub.skip rfl (Sub.skip rfl (Sub.skip rfl (Sub.skip rfl (Sub.skip rfl (Sub.skip rfl (Sub.same rfl (by rw [g29]) (Sub.refl _))))))))) (List.Sublist.refl _)
    ) (fun g29 => by
      have g29' := g29
      try simp only [decide_eq_true_eq, decide_eq_false_iff_not, Bool.not_eq_true', Bool.not_eq_false', Bool.and_eq_true, Bool.or_eq_true, Bool.and_eq_false_iff, Bool.or_eq_false_iff, Int.not_le, Int.not_lt] at g29'
      iterate 5 refine RunL.no rfl rfl rfl ?_
      refine RunL.val (Val.pure rfl) rfl rfl rfl ?_
      exact RunL.segEnd (Sub.cons rfl (Sub.skip rfl (Sub.skip rfl (Sub.skip rfl (Sub.skip rfl (Sub.skip rfl (Sub.skip rfl (Sub.same rfl (by rw [g29]) (Sub.refl _))))))))) (List.Sublist.refl _)
    ) ?_
    refine RunL.val (Val.pure rfl) rfl rfl rfl ?_
    refine RunL.nil ?_
    refine RunE.next ?_
    refine RunC.ret ?_
    exact RunE.retP (.r1 rfl (.tmp rfl)) (by rw [mixed_no g18']; simp)
end Go.Proofs.YtlhdalcipflblaaDoor
/- Walks of package heap: sets, and what a card fits. -/
set_option linter.unusedSimpArgs false
set_option linter.unusedVariables false
namespace Go.Hp
open Go Go.Eng Go.Pw1
def orL (l : List Nat) : Nat := l.foldl (· ||| ·) 0
theorem orL_snoc (l : List Nat) (a : Nat) : orL (l ++ [a]) = orL l ||| a := by simp [orL]
theorem orL_lt {n : Nat} : ∀ (l : List Nat), (∀ a ∈ l, a < 2 ^ n) → orL l < 2 ^ n := by
  intro l
  have key : ∀ (l : List Nat) (z : Nat), z < 2 ^ n → (∀ a ∈ l, a < 2 ^ n) → l.foldl (· ||| ·) z < 2 ^ n := by
    intro l
    induction l with
    | nil => intro z hz _; exact hz
    | cons a l ih => intro z hz h; exact ih _ (Nat.or_lt_two_pow hz (h a (by simp))) (fun b hb => h b (List.mem_cons_of_mem _ hb))
  exact key l 0 (Nat.two_pow_pos n)
def setsV (l : List Nat) : List (List Value) := l.map fun (x : Nat) => [.int .u64 (x : Int)]
theorem fits_step {t : Tn} {es : List En} {k : Nat} (hk : k < es.length) {x : En} (hx : es[k] = x) : fitsL t 0 (es.take (k + 1)) = fitsL t 0 (es.take k) ||| (if fitX t x then 2 ^ k else 0) := by
  rw [List.take_succ_eq_append_getElem hk, fitsL_snoc, hx]
  simp [Nat.min_eq_left (Nat.le_of_lt hk)]
end Go.Hp
namespace Go.Proofs.YtlhdalcipflblaaDoor
open Go Go.Eng Go.Hp Go.Pw1

-- meth_131_pairworks_heap_suits
-- meth_129_pairworks_heap_suits
theorem union_calls (l : List Nat) (hlt : ∀ a ∈ l, a < 2 ^ 12) (hl : l.length ≤ 1000) (q : Option Addr) (b o cap : Nat) (W : World) (hS : Sl W q b o 1 (setsV l)) : Calls Tryd.prog 46 #[.slice q l.length cap] W (Pure (.int .u64 ((orL l : Nat) : Int)) W) := by
  refine calls_start Tryd.func46 rfl rfl ?_
  refine RunC.seq ?_
  refine RunC.region ?_
  refine RunL.val (Val.pure rfl) rfl rfl rfl ?_
  refine RunL.nil ?_
  refine RunE.next ?_
  refine RunC.seq ?_
  refine RunC.seq ?_
  refine RunC.region ?_
  refine RunL.val (Val.pure rfl) rfl rfl rfl ?_
  refine RunL.val (Val.len_sl rfl sl_70) rfl rfl rfl ?_
  refine RunL.val (Val.pure rfl) rfl rfl rfl ?_
  refine RunL.nil ?_
  refine RunE.next ?_
  refine RunC.block ?_
  refine RunC.loopK (l.length) (fun k q => (7, .int .i64 (k : Int)) :: (2, .int .u64 ((orL (l.take k) : Nat) : Int)) :: q) (fun _ => _) (fun _ => []) (fun _ => True) trivial rfl (Sub.consE (t := 7) rfl rfl (Sub.consE (t := 2) rfl rfl (Sub.cons (t := 5) rfl (Sub.cons (t := 6) rfl (Sub.nil _))))) .nil ?_
  intro k kN kI
  clear kI
  refine RunC.seq ?_
  refine RunC.region ?_
  refine RunL.val (Val.pure rfl) rfl rfl rfl ?_
  refine RunL.nil ?_
  refine RunE.next ?_
  refine RunC.seq ?_
  refine RunC.cond rfl ?_ ?_
  · intro c0
    have c0' := c0; clear c0
    try simp only [decide_eq_true_eq, decide_eq_false_iff_not, Bool.not_eq_true', Bool.not_eq_false', Bool.and_eq_true, Bool.or_eq_true, Bool.and_eq_false_iff, Bool.or_eq_false_iff, Int.not_le, Int.not_lt] at c0'
    have hk : k < l.length := by omega
    obtain ⟨x, hx⟩ : ∃ x, l[k] = x := ⟨_, rfl⟩
    have h1 := hlt x (hx ▸ List.getElem_mem hk)
    have h2 := orL_lt (l.take k) (fun a ha => hlt a (List.mem_of_mem_take ha))
    have h3 := Nat.or_lt_two_pow h2 h1
    refine RunC.skip ?_
    refine RunE.next ?_
    refine RunC.seq ?_
    refine RunC.block ?_
    refine RunC.seq ?_
    refine RunC.region ?_
    refine RunL.val (Val.indexAddr_slp rfl rfl sl_70 (by omega) (by omega) (hS.ptrM hk)) rfl rfl rfl ?_
    refine RunL.val (Val.load_gen rfl (fun w hm => hS.loadM1 (by decide) hm (by simp) ty_68 hk (v := .int .u64 (x : Int)) (by simp [hx]))) rfl rfl rfl ?_
    refine RunL.val (Val.pure rfl) rfl rfl rfl ?_
    refine RunL.nil ?_
    refine RunE.next ?_
    refine RunC.region ?_
    refine RunL.val (Val.pure rfl) rfl rfl rfl ?_
    refine RunL.val (Val.pure rfl) rfl rfl rfl ?_
    refine RunL.val (Val.or (a := orL (l.take k)) (b := x) rfl rfl (by show _ < 18446744073709551616; omega) (by show _ < 18446744073709551616; omega) (u64_in (by omega))) rfl rfl rfl ?_
    refine RunL.val (Val.pure rfl) rfl rfl rfl ?_
    refine RunL.nil ?_
    refine RunE.block_normal ?_
    refine RunE.next ?_
    refine RunC.region ?_
    refine RunL.val (Val.add rfl rfl (IntWalk.i64_in _ ⟨by omega, by omega⟩)) rfl rfl rfl ?_
    refine RunL.val (Val.pure rfl) rfl rfl rfl ?_
    refine RunL.nil ?_
    exact RunE.round (by omega) trivial rfl (Sub.consE (t := 7) rfl rfl (Sub.consE (t := 2) rfl (by rw [List.take_succ_eq_append_getElem hk, orL_snoc, hx]) (Sub.cons (t := 5) rfl (Sub.cons (t := 6) rfl (Sub.nil _))))) .nil
  · intro c0
    have c0' := c0; clear c0
    try simp only [decide_eq_true_eq, decide_eq_false_iff_not, Bool.not_eq_true', Bool.not_eq_false', Bool.and_eq_true, Bool.or_eq_true, Bool.and_eq_false_iff, Bool.or_eq_false_iff, Int.not_le, Int.not_lt] at c0'
    obtain rfl : k = l.length := by omega
    simp only [List.take_length]
    refine RunC.exit ?_
    refine RunE.pass_exit ?_
    refine RunE.pass_exit ?_
    refine RunE.block_here ?_
    refine RunE.next ?_
    refine RunC.seq ?_
    refine RunC.region ?_
    refine RunL.val (Val.pure rfl) rfl rfl rfl ?_
    refine RunL.val (Val.pure rfl) rfl rfl rfl ?_
    refine RunL.nil ?_
    refine RunE.next ?_
    refine RunC.ret ?_
    exact RunE.retP (.r1 rfl (.tmp rfl)) (by first | rfl | simp)
theorem union2_calls (a c : Nat) (ha : a < 2 ^ 12) (hc : c < 2 ^ 12) (b : Nat) (W : World) (h : W.heap[b]? = some (.cells [.int .u64 (a : Int), .int .u64 (c : Int)].toArray 68 (0, 0))) : Calls Tryd.prog 46 #[.slice (some ⟨b, 0, none⟩) 2 2] W (Pure (.int .u64 ((a ||| c : Nat) : Int)) W) := by
  have h1 := union_calls [a, c] (by intro x hx; rcases List.mem_cons.1 hx with rfl | hx; exact ha; cases List.mem_singleton.1 hx; exact hc) (by simp) (some ⟨b, 0, none⟩) b 0 2 W (Sl.row1 h)
  have e : orL [a, c] = a ||| c := by simp [orL]
  rw [e] at h1
  exact h1
theorem has_calls (s i : Nat) (hs : s < 2 ^ 12) (hi : i ≤ 60) (W : World) : Calls Tryd.prog 45 #[.int .u64 (s : Int), .int .i64 (i : Int)] W (Pure (.bool (s.testBit i)) W) := by
  have h1 := Nat.shiftRight_le s i
  have h2 := Nat.and_le_right (n := s >>> i) (m := 1)
  refine calls_start Tryd.func45 rfl rfl ?_
  refine RunC.seq ?_
  refine RunC.region ?_
  refine RunL.val (Val.pure rfl) rfl rfl rfl ?_
  refine RunL.nil ?_
  refine RunE.next ?_
  refine RunC.seq ?_
  refine RunC.region ?_
  refine RunL.val (Val.pure rfl) rfl rfl rfl ?_
  refine RunL.val (Val.pure rfl) rfl rfl rfl ?_
  refine RunL.val (Val.shrN (a := s) (b := i) rfl rfl (by show i ≤ 64; omega)) rfl rfl rfl ?_
  refine RunL.val (Val.and (a := s >>> i) (b := 1) rfl rfl (by show _ < 18446744073709551616; omega) (by decide) (u64_in (by omega))) rfl rfl rfl ?_
  refine RunL.val (Val.pure rfl) rfl rfl rfl ?_
  refine RunL.val (Val.pure rfl) rfl rfl rfl ?_
  refine RunL.nil ?_
  refine RunE.next ?_
  refine RunC.ret ?_
  exact RunE.retP (.r1 rfl (.tmp rfl)) (by refine congrArg Value.bool ?_; rw [Nat.testBit_eq_decide_div_mod_eq, ← Nat.shiftRight_eq_div_pow, decide_eq_decide, Nat.and_one_is_mod]; omega)
theorem fit1_calls (x : En) (W : World) : Calls Tryd.prog 82 #[.agg x.cells.toArray] W (Pure (.string (bs x.number)) W) := by
  refine calls_start Tryd.func82 rfl rfl ?_
  refine RunC.seq ?_
  refine RunC.region ?_
  refine RunL.new (New.box rfl) rfl rfl rfl (fun b1 => ?_)
  refine RunL.val (Val.pure rfl) rfl rfl rfl ?_
  refine RunL.nil ?_
  refine RunE.next ?_
  refine RunC.seq ?_
  refine RunC.region ?_
  refine RunL.val (Val.fieldAddr rfl fld_95_1) rfl rfl rfl ?_
  refine RunL.val (Val.load_one rfl (.head _) ty_9 rfl) rfl rfl rfl ?_
  refine RunL.val (Val.pure rfl) rfl rfl rfl ?_
  refine RunL.nil ?_
  refine RunE.next ?_
  refine RunC.ret ?_
  exact RunE.retP (.r1 rfl (.tmp rfl)) (by first | rfl | simp)
theorem fit2_calls (x : En) (W : World) : Calls Tryd.prog 83 #[.agg x.cells.toArray] W (Pure (.string (bs x.title)) W) := by
  refine calls_start Tryd.func83 rfl rfl ?_
  refine RunC.seq ?_
  refine RunC.region ?_
  refine RunL.new (New.box rfl) rfl rfl rfl (fun b1 => ?_)
  refine RunL.val (Val.pure rfl) rfl rfl rfl ?_
  refine RunL.nil ?_
  refine RunE.next ?_
  refine RunC.seq ?_
  refine RunC.region ?_
  refine RunL.val (Val.fieldAddr rfl fld_95_2) rfl rfl rfl ?_
  refine RunL.val (Val.load_one rfl (.head _) ty_9 rfl) rfl rfl rfl ?_
  refine RunL.val (Val.pure rfl) rfl rfl rfl ?_
  refine RunL.nil ?_
  refine RunE.next ?_
  refine RunC.ret ?_
  exact RunE.retP (.r1 rfl (.tmp rfl)) (by first | rfl | simp)
theorem suits_calls (p s : Str) (hp : p.length ≤ 1000000) (hs : s.length ≤ 1000000) (W : World) : Calls Tryd.prog (pieceF p) #[pieceP p, .string (bs s)] W (Pure (.bool (suitsX p s)) W) := by
  unfold pieceF pieceP suitsX
  cases h : starAt p with
  | some i => exact ends_calls (p.take i) (p.drop (i + 1)) s (by simp; omega) (by simp; omega) hs W
  | none => exact whole_calls p s hp hs W
theorem isCall_piece {r : Regs} {x : Operand} {p : Str} {xs : List Operand} {vs : List Value} {ats : Array TypeId} {dst : Option Tmp} {gd : Option (Nat × Bool)} {ty : TypeId} {pos : String} {after : Array Edge} (hv : rev r x = some (pieceV p)) (hx : revs r xs = some vs) :
    IsCall Tryd.prog r { dst, op := .call { callee := .invoke x "pairworks/heap.suits", args := xs.toArray, argTypes := ats }, type := ty, pos, after, guard := gd } (pieceF p) (pieceP p :: vs).toArray := by
  unfold pieceV pieceT pieceP at hv
  unfold pieceF pieceP
  cases h : starAt p with
  | some i =>
    rw [h] at hv
    exact isCall_invoke hv hx (fun w => meth_131_pairworks_heap_suits _ w) ent_129
  | none =>
    rw [h] at hv
    exact isCall_invoke hv hx (fun w => meth_129_pairworks_heap_suits _ w) ent_128
theorem fit_calls (t : Tn) (ht : t.number.length ≤ 1000000 ∧ t.text.length ≤ 1000000) (es : List En) (hes : es.length ≤ 12) (hen : ∀ x ∈ es, x.number.length ≤ 1000000 ∧ x.title.length ≤ 1000000) (bh : Nat) (v0 v1 v3 v4 : Value) (qe : Option Addr) (be ce : Nat) (W : World)
    (hv : W.heap[bh]? = some (.cells [v0, v1, .slice qe es.length ce, v3, v4].toArray 73 (0, 0))) (hS : Sl W qe be 0 3 (es.map En.cells)) :
    Calls Tryd.prog 64 #[.pointer (some ⟨bh, 0, none⟩), .agg t.cells.toArray] W (Pure (.int .u64 ((fitsL t 0 es : Nat) : Int)) W) := by
  refine calls_start Tryd.func64 rfl rfl ?_
  refine RunC.seq ?_
  refine RunC.region ?_
  refine RunL.new (New.box rfl) rfl rfl rfl (fun b3 => ?_)
  refine RunL.val (Val.pure rfl) rfl rfl rfl ?_
  refine RunL.nil ?_
  refine RunE.next ?_
  refine RunC.scope ?_
  refine RunC.seq ?_
  apply RunC.drawJ (J := J1 _ _ _ _ _ _) 10 fol_ (.cons .here rfl .nil)
  · refine RunA.val (i := 0) rfl (by kernel_rfl) (by kernel_rfl) (Val.fieldAddr rfl fld_50_1) rfl rfl rfl (fun _ _ _ h => h) (.cons .here rfl .nil) rfl ?_
    refine RunA.val (i := 1) rfl (by kernel_rfl) (by kernel_rfl) (Val.load_one rfl (.head _) ty_9 rfl) rfl rfl rfl (fun _ _ _ h => h) (.cons .here rfl .nil) rfl ?_
    refine RunA.val (i := 4) rfl (by kernel_rfl) (by kernel_rfl) (Val.fieldAddr rfl fld_50_2) rfl rfl rfl (fun _ _ _ h => h) (.cons .here rfl .nil) rfl ?_
    refine RunA.val (i := 5) rfl (by kernel_rfl) (by kernel_rfl) (Val.load_one rfl (.head _) ty_9 rfl) rfl rfl rfl (fun _ _ _ h => h) (.cons .here rfl .nil) rfl ?_
    refine RunA.all (rs := [2, 9]) (by kernel_rfl) (by simp) (by kernel_rfl) (fun m hm => ?_)
    simp only [List.mem_cons, List.not_mem_nil, or_false] at hm
    rcases hm with rfl | rfl
    · refine RunI.callP rfl (isCall_func rfl ent_81) rfl rfl rfl (fun w hm => pieceOf_calls t.number ht.1 w) (RunK.toA (.cons .here rfl .nil) (.cons .here rfl .nil) rfl ?_)
      refine RunA.val (i := 3) rfl (by kernel_rfl) (by kernel_rfl) (Val.build (parts := [(0, .tmp 12), (1, .func 82)]) rfl zero_117 places_117 rfl) rfl rfl rfl (fun _ _ _ h => h) (.cons .here rfl .nil) rfl ?_
      refine RunA.all (rs := [6, 9]) (by kernel_rfl) (by simp) (by kernel_rfl) (fun m hm => ?_)
      simp only [List.mem_cons, List.not_mem_nil, or_false] at hm
      rcases hm with rfl | rfl
      · refine RunI.callP rfl (isCall_func rfl ent_81) rfl rfl rfl (fun w hm => pieceOf_calls t.text ht.2 w) (RunK.toA (.cons .here rfl .nil) (.cons .here rfl .nil) rfl ?_)
        refine RunA.val (i := 7) rfl (by kernel_rfl) (by kernel_rfl) (Val.build (parts := [(0, .tmp 16), (1, .func 83)]) rfl zero_117 places_117 rfl) rfl rfl rfl (fun _ _ _ h => h) (.cons .here rfl .nil) rfl ?_
        refine RunA.val (i := 8) rfl (by kernel_rfl) (by kernel_rfl) (Val.build (parts := [(0, .tmp 13), (1, .tmp 17)]) rfl zero_118 places_118 rfl) rfl rfl rfl (fun _ _ _ h => h) (.cons .here rfl .nil) rfl ?_
        refine RunA.one (i := 9) (by kernel_rfl) (by kernel_rfl) ?_
        refine RunI.new rfl (New.alloc zero_118) rfl rfl rfl (fun b5 => (RunK.toA (.cons .here rfl (.cons .here rfl .nil)) (.cons (.there .here) rfl .nil) rfl ?_))
        refine RunA.toB (by kernel_rfl) ?_
        refine RunB.one (i := 10) (by kernel_rfl) ?_
        refine RunI.sto rfl (Sto.store rfl rfl .here ty_118 rfl rfl) rfl rfl (RunK.toB ?_)
        refine RunB.done (by kernel_rfl) ?_
        exact RunE.join1 b5 (Sub.refl _) (Pick.refl _)
      · refine RunI.new rfl (New.alloc zero_118) rfl rfl rfl (fun b5 => (RunK.toA (.cons .here rfl (.cons .here rfl .nil)) (.cons (.there .here) rfl .nil) rfl ?_))
        refine RunA.one (i := 6) (by kernel_rfl) (by kernel_rfl) ?_
        refine RunI.callP rfl (isCall_func rfl ent_81) rfl rfl rfl (fun w hm => pieceOf_calls t.text ht.2 w) (RunK.toA (.cons .here rfl (.cons .here rfl .nil)) (.cons .here rfl (.cons .here rfl .nil)) rfl ?_)
        refine RunA.val (i := 7) rfl (by kernel_rfl) (by kernel_rfl) (Val.build (parts := [(0, .tmp 16), (1, .func 83)]) rfl zero_117 places_117 rfl) rfl rfl rfl (fun _ _ _ h => h) (.cons .here rfl (.cons .here rfl .nil)) rfl ?_
        refine RunA.val (i := 8) rfl (by kernel_rfl) (by kernel_rfl) (Val.build (parts := [(0, .tmp 13), (1, .tmp 17)]) rfl zero_118 places_118 rfl) rfl rfl rfl (fun _ _ _ h => h) (.cons .here rfl (.cons .here rfl .nil)) rfl ?_
        refine RunA.toB (by kernel_rfl) ?_
        refine RunB.one (i := 10) (by kernel_rfl) ?_
        refine RunI.sto rfl (Sto.store rfl rfl .here ty_118 rfl rfl) rfl rfl (RunK.toB ?_)
        refine RunB.done (by kernel_rfl) ?_
        exact RunE.join1 b5 (Sub.cons (t := 5) rfl (Sub.cons (t := 18) rfl (Sub.cons (t := 17) rfl (Sub.cons (t := 16) rfl (Sub.cons (t := 13) rfl (Sub.cons (t := 12) rfl (Sub.cons (t := 15) rfl (Sub.cons (t := 14) rfl (Sub.cons (t := 11) rfl (Sub.cons (t := 10) rfl (Sub.skip rfl (Sub.skip rfl (Sub.skip rfl (Sub.skip rfl (Sub.skip rfl (Sub.skip rfl (Sub.skip rfl (Sub.skip rfl (Sub.skip rfl (Sub.skip rfl (Sub.refl _))))))))))))))))))))) (.cons .here rfl (.cons .here rfl .nil))
    · refine RunI.new rfl (New.alloc zero_118) rfl rfl rfl (fun b5 => (RunK.toA (.cons .here rfl (.cons .here rfl .nil)) (.cons (.there .here) rfl .nil) rfl ?_))
      refine RunA.one (i := 2) (by kernel_rfl) (by kernel_rfl) ?_
      refine RunI.callP rfl (isCall_func rfl ent_81) rfl rfl rfl (fun w hm => pieceOf_calls t.number ht.1 w) (RunK.toA (.cons .here rfl (.cons .here rfl .nil)) (.cons .here rfl (.cons .here rfl .nil)) rfl ?_)
      refine RunA.val (i := 3) rfl (by kernel_rfl) (by kernel_rfl) (Val.build (parts := [(0, .tmp 12), (1, .func 82)]) rfl zero_117 places_117 rfl) rfl rfl rfl (fun _ _ _ h => h) (.cons .here rfl (.cons .here rfl .nil)) rfl ?_
      refine RunA.one (i := 6) (by kernel_rfl) (by kernel_rfl) ?_
      refine RunI.callP rfl (isCall_func rfl ent_81) rfl rfl rfl (fun w hm => pieceOf_calls t.text ht.2 w) (RunK.toA (.cons .here rfl (.cons .here rfl .nil)) (.cons .here rfl (.cons .here rfl .nil)) rfl ?_)
      refine RunA.val (i := 7) rfl (by kernel_rfl) (by kernel_rfl) (Val.build (parts := [(0, .tmp 16), (1, .func 83)]) rfl zero_117 places_117 rfl) rfl rfl rfl (fun _ _ _ h => h) (.cons .here rfl (.cons .here rfl .nil)) rfl ?_
      refine RunA.val (i := 8) rfl (by kernel_rfl) (by kernel_rfl) (Val.build (parts := [(0, .tmp 13), (1, .tmp 17)]) rfl zero_118 places_118 rfl) rfl rfl rfl (fun _ _ _ h => h) (.cons .here rfl (.cons .here rfl .nil)) rfl ?_
      refine RunA.toB (by kernel_rfl) ?_
      refine RunB.one (i := 10) (by kernel_rfl) ?_
      refine RunI.sto rfl (Sto.store rfl rfl .here ty_118 rfl rfl) rfl rfl (RunK.toB ?_)
      refine RunB.done (by kernel_rfl) ?_
      exact RunE.join1 b5 (Sub.cons (t := 5) rfl (Sub.cons (t := 18) rfl (Sub.cons (t := 17) rfl (Sub.cons (t := 16) rfl (Sub.cons (t := 13) rfl (Sub.cons (t := 12) rfl (Sub.cons (t := 15) rfl (Sub.cons (t := 14) rfl (Sub.cons (t := 11) rfl (Sub.cons (t := 10) rfl (Sub.skip rfl (Sub.skip rfl (Sub.skip rfl (Sub.skip rfl (Sub.skip rfl (Sub.skip rfl (Sub.skip rfl (Sub.skip rfl (Sub.skip rfl (Sub.skip rfl (Sub.refl _))))))))))))))))))))) (.cons .here rfl (.cons .here rfl .nil))
  refine J1.out (fun b5 => ?_)
  refine RunE.next ?_
  refine RunC.seq ?_
  refine RunC.label ?_
  refine RunE.next ?_
  refine RunC.seq ?_
  refine RunC.seq ?_
  refine RunC.region ?_
  refine RunL.val (Val.pure rfl) rfl rfl rfl ?_
  refine RunL.val (Val.pure rfl) rfl rfl rfl ?_
  refine RunL.val (Val.fieldAddr rfl fld_73_1) rfl rfl rfl ?_
  refine RunL.val (Val.oload_one rfl hv (by simp) ty_69 rfl) rfl rfl rfl ?_
  refine RunL.val (Val.len_sl rfl sl_69) rfl rfl rfl ?_
  refine RunL.val (Val.pure rfl) rfl rfl rfl ?_
  refine RunL.nil ?_
  refine RunE.next ?_
  refine RunC.block ?_
  refine RunC.loopK (es.length) (fun k q => (24, .int .i64 (k : Int)) :: (4, .int .u64 ((fitsL t 0 (es.take k) : Nat) : Int)) :: q) (fun _ => _) (fun _ => []) (fun _ => True) trivial rfl (Sub.consE (t := 24) rfl rfl (Sub.consE (t := 4) rfl rfl (Sub.cons (t := 3) rfl (Sub.cons (t := 5) rfl (Sub.cons (t := 22) rfl (Sub.cons (t := 23) rfl (Sub.nil _))))))) (.cons .here rfl (.cons .here rfl .nil)) ?_
  intro k kN kI
  clear kI
  refine RunC.seq ?_
  refine RunC.region ?_
  refine RunL.val (Val.pure rfl) rfl rfl rfl ?_
  refine RunL.nil ?_
  refine RunE.next ?_
  refine RunC.seq ?_
  refine RunC.cond rfl ?_ ?_
  · intro c0
    have c0' := c0; clear c0
    try simp only [decide_eq_true_eq, decide_eq_false_iff_not, Bool.not_eq_true', Bool.not_eq_false', Bool.and_eq_true, Bool.or_eq_true, Bool.and_eq_false_iff, Bool.or_eq_false_iff, Int.not_le, Int.not_lt] at c0'
    have hk : k < es.length := by omega
    obtain ⟨x, hx⟩ : ∃ x, es[k] = x := ⟨_, rfl⟩
    have hxs := hen x (hx ▸ List.getElem_mem hk)
    have h1 := fitsL_lt t (es.take k) 0
    rw [List.length_take, Nat.zero_add, Nat.min_eq_left (by omega)] at h1
    have h2 : 2 ^ k < 2 ^ 12 := Nat.pow_lt_pow_right (by decide) (by omega)
    refine RunC.skip ?_
    refine RunE.next ?_
    refine RunC.seq ?_
    refine RunC.block ?_
    refine RunC.seq ?_
    refine RunC.region ?_
    refine RunL.val (Val.pure rfl) rfl rfl rfl ?_
    refine RunL.val (Val.indexAddr_slp rfl rfl sl_69 (by omega) (by omega) (hS.ptrM hk)) rfl rfl rfl ?_
    refine RunL.val (Val.load_gen rfl (fun w hm => hS.loadX (by decide) hm (by simp) ty_95 hk hx)) rfl rfl rfl ?_
    refine RunL.new (New.alloc zero_95) rfl rfl rfl (fun b7 => ?_)
    refine RunL.val (Val.pure rfl) rfl rfl rfl ?_
    refine RunL.sto (Sto.store rfl rfl .here ty_95 rfl rfl) rfl rfl ?_
    refine RunL.nil ?_
    refine RunE.next ?_
    refine RunC.seq ?_
    refine RunC.seq ?_
    refine RunC.region ?_
    refine RunL.val (Val.fieldAddr rfl fld_50_0) rfl rfl rfl ?_
    refine RunL.val (Val.load_one rfl (.tail _ (.tail _ (.head _))) ty_3 rfl) rfl rfl rfl ?_
    refine RunL.val (Val.pure rfl) rfl rfl rfl ?_
    refine RunL.val (Val.pure rfl) rfl rfl rfl ?_
    refine RunL.andPart (dj := 32) (dp := 38) 6 rfl (fun g32 => by
      have g32' := g32
      try simp only [decide_eq_true_eq, decide_eq_false_iff_not, Bool.not_eq_true', Bool.not_eq_false', Bool.and_eq_true, Bool.or_eq_true, Bool.and_eq_false_iff, Bool.or_eq_false_iff, Int.not_le, Int.not_lt] at g32'
      refine RunL.val (Val.fieldAddr rfl fld_50_0) rfl rfl rfl ?_
      refine RunL.val (Val.load_one rfl (.tail _ (.tail _ (.head _))) ty_3 rfl) rfl rfl rfl ?_
      refine RunL.val (Val.fieldAddr rfl fld_95_0) rfl rfl rfl ?_
      refine RunL.val (Val.load_one rfl (.head _) ty_3 rfl) rfl rfl rfl ?_
      refine RunL.val (Val.pure rfl) rfl rfl rfl ?_
      refine RunL.val (Val.pure rfl) rfl rfl rfl ?_
      exact RunL.segEnd (Sub.cons rfl (Sub.skip rfl (Sub.skip rfl (Sub.skip rfl (Sub.skip rfl (Sub.skip rfl (Sub.skip rfl (Sub.same rfl (by rw [g32]) (Sub.refl _))))))))) (List.Sublist.refl _)
    ) (fun g32 => by
      have g32' := g32
      try simp only [decide_eq_true_eq, decide_eq_false_iff_not, Bool.not_eq_true', Bool.not_eq_false', Bool.and_eq_true, Bool.or_eq_true, Bool.and_eq_false_iff, Bool.or_eq_false_iff, Int.not_le, Int.not_lt] at g32'
      iterate 5 refine RunL.no rfl rfl rfl ?_
      refine RunL.val (Val.pure rfl) rfl rfl rfl ?_
      exact RunL.segEnd (Sub.cons rfl (Sub.skip rfl (Sub.skip rfl (Sub.skip rfl (Sub.skip rfl (Sub.skip rfl (Sub.skip rfl (Sub.same rfl (by rw [g32]) (Sub.refl _))))))))) (List.Sublist.refl _)
    ) ?_
    refine RunL.nil ?_
    refine RunE.next ?_
    refine RunC.cond rfl ?_ ?_
    · intro c1
      have c1' := c1; clear c1
      try simp only [decide_eq_true_eq, decide_eq_false_iff_not, Bool.not_eq_true', Bool.not_eq_false', Bool.and_eq_true, Bool.or_eq_true, Bool.and_eq_false_iff, Bool.or_eq_false_iff, Int.not_le, Int.not_lt] at c1'
      have hf : fitX t x = false := by simp [fitX, c1']
      refine RunC.exit ?_
      refine RunE.pass_exit ?_
      refine RunE.block_here ?_
      refine RunE.next ?_
      refine RunC.region ?_
      refine RunL.val (Val.add rfl rfl (IntWalk.i64_in _ ⟨by omega, by omega⟩)) rfl rfl rfl ?_
      refine RunL.val (Val.pure rfl) rfl rfl rfl ?_
      refine RunL.nil ?_
      exact RunE.round (by omega) trivial rfl (Sub.consE (t := 24) rfl rfl (Sub.consE (t := 4) rfl (by rw [fits_step hk hx, hf]; simp) (Sub.cons (t := 3) rfl (Sub.cons (t := 5) rfl (Sub.cons (t := 22) rfl (Sub.cons (t := 23) rfl (Sub.nil _))))))) (.cons (.there .here) rfl (.cons (.there .here) rfl .nil))
    · intro c1
      have c1' := c1; clear c1
      try simp only [decide_eq_true_eq, decide_eq_false_iff_not, Bool.not_eq_true', Bool.not_eq_false', Bool.and_eq_true, Bool.or_eq_true, Bool.and_eq_false_iff, Bool.or_eq_false_iff, Int.not_le, Int.not_lt] at c1'
      have hcol : t.colour = 0 ∨ t.colour = x.colour := by omega
      refine RunC.skip ?_
      refine RunE.next ?_
      refine RunC.seq ?_
      refine RunC.seq ?_
      refine RunC.region ?_
      refine RunL.val (Val.load_agg rfl (.tail _ (.head _)) ty_118 rfl) rfl rfl rfl ?_
      refine RunL.val (Val.pure rfl) rfl rfl rfl ?_
      refine RunL.nil ?_
      refine RunE.next ?_
      refine RunC.block ?_
      refine RunC.unroll 2 ?_
      refine RunC.seq ?_
      refine RunC.region ?_
      refine RunL.val (Val.pure rfl) rfl rfl rfl ?_
      refine RunL.nil ?_
      refine RunE.next ?_
      refine RunC.seq ?_
      refine RunC.cond rfl ?_ (fun h => absurd h (by decide))
      intro c2
      clear c2
      refine RunC.skip ?_
      refine RunE.next ?_
      refine RunC.seq ?_
      refine RunC.block ?_
      refine RunC.seq ?_
      refine RunC.region ?_
      refine RunL.val (Val.indexN rfl rfl arrN_118 (by decide) (by decide) rfl) rfl rfl rfl ?_
      refine RunL.new (New.alloc zero_117) rfl rfl rfl (fun b9 => ?_)
      refine RunL.sto (Sto.store rfl rfl .here ty_117 rfl rfl) rfl rfl ?_
      refine RunL.nil ?_
      refine RunE.next ?_
      refine RunC.seq ?_
      refine RunC.draw 8 fol_ (.cons .here rfl (.cons .here rfl (.cons .here rfl (.cons .here rfl .nil)))) ?_
      refine RunA.val (i := 0) rfl (by kernel_rfl) (by kernel_rfl) (Val.fieldAddr rfl fld_117_0) rfl rfl rfl (fun _ _ _ h => h) (.cons .here rfl (.cons .here rfl (.cons .here rfl (.cons .here rfl .nil)))) rfl ?_
      refine RunA.val (i := 1) rfl (by kernel_rfl) (by kernel_rfl) (Val.load_one rfl (.head _) ty_113 rfl) rfl rfl rfl (fun _ _ _ h => h) (.cons .here rfl (.cons .here rfl (.cons .here rfl (.cons .here rfl .nil)))) rfl ?_
      refine RunA.val (i := 2) rfl (by kernel_rfl) (by kernel_rfl) (Val.fieldAddr rfl fld_117_1) rfl rfl rfl (fun _ _ _ h => h) (.cons .here rfl (.cons .here rfl (.cons .here rfl (.cons .here rfl .nil)))) rfl ?_
      refine RunA.val (i := 3) rfl (by kernel_rfl) (by kernel_rfl) (Val.load_one rfl (.head _) ty_115 rfl) rfl rfl rfl (fun _ _ _ h => h) (.cons .here rfl (.cons .here rfl (.cons .here rfl (.cons .here rfl .nil)))) rfl ?_
      refine RunA.val (i := 4) rfl (by kernel_rfl) (by kernel_rfl) (Val.load_agg rfl (.tail _ (.head _)) ty_95 rfl) rfl rfl rfl (fun _ _ _ h => h) (.cons .here rfl (.cons .here rfl (.cons .here rfl (.cons .here rfl .nil)))) rfl ?_
      refine RunA.val (i := 6) rfl (by kernel_rfl) (by kernel_rfl) (Val.nilIface (t := pieceT _) (v := pieceP _) rfl) rfl rfl rfl (fun _ _ _ h => h) (.cons .here rfl (.cons .here rfl (.cons .here rfl (.cons .here rfl .nil)))) rfl ?_
      refine RunA.val (i := 7) rfl (by kernel_rfl) (by kernel_rfl) (Val.pure rfl) rfl rfl rfl (fun _ _ _ h => h) (.cons .here rfl (.cons .here rfl (.cons .here rfl (.cons .here rfl .nil)))) rfl ?_
      refine RunA.one (i := 5) (by kernel_rfl) (by kernel_rfl) ?_
      refine RunI.callP rfl (isCall_value rfl rfl ent_82) rfl rfl rfl (fun w hm => fit1_calls x w) (RunK.toA (.cons .here rfl (.cons .here rfl (.cons .here rfl (.cons .here rfl .nil)))) (.cons .here rfl (.cons .here rfl (.cons .here rfl (.cons .here rfl .nil)))) rfl ?_)
      refine RunA.toB (by kernel_rfl) ?_
      refine RunB.one (i := 8) (by kernel_rfl) ?_
      refine RunI.callP rfl (isCall_piece rfl rfl) rfl rfl rfl (fun w hm => suits_calls _ _ (by first | exact ht.1 | exact ht.2) (by first | exact hxs.1 | exact hxs.2) w) (RunK.toB ?_)
      refine RunB.one (i := 9) (by kernel_rfl) ?_
      refine RunI.val rfl (Val.pure rfl) rfl rfl rfl (RunK.toB ?_)
      refine RunB.done (by kernel_rfl) ?_
      refine RunE.next ?_
      refine RunC.cond rfl ?_ ?_
      · intro c3
        have c3' := c3; clear c3
        try simp only [decide_eq_true_eq, decide_eq_false_iff_not, Bool.not_eq_true', Bool.not_eq_false', Bool.and_eq_true, Bool.or_eq_true, Bool.and_eq_false_iff, Bool.or_eq_false_iff, Int.not_le, Int.not_lt] at c3'
        have hf : fitX t x = false := by simp [fitX, c3']
        refine RunC.exit ?_
        refine RunE.block_other rfl ?_
        refine RunE.pass_exit ?_
        refine RunE.pass_exit ?_
        refine RunE.block_other rfl ?_
        refine RunE.pass_exit ?_
        refine RunE.block_here ?_
        refine RunE.next ?_
        refine RunC.region ?_
        refine RunL.val (Val.add rfl rfl (IntWalk.i64_in _ ⟨by omega, by omega⟩)) rfl rfl rfl ?_
        refine RunL.val (Val.pure rfl) rfl rfl rfl ?_
        refine RunL.nil ?_
        exact RunE.round (by omega) trivial rfl (Sub.consE (t := 24) rfl rfl (Sub.consE (t := 4) rfl (by rw [fits_step hk hx, hf]; simp) (Sub.cons (t := 3) rfl (Sub.cons (t := 5) rfl (Sub.cons (t := 22) rfl (Sub.cons (t := 23) rfl (Sub.nil _))))))) (.cons (.there (.there .here)) rfl (.cons (.there (.there .here)) rfl .nil))
      · intro c3
        have c3' := c3; clear c3
        try simp only [decide_eq_true_eq, decide_eq_false_iff_not, Bool.not_eq_true', Bool.not_eq_false', Bool.and_eq_true, Bool.or_eq_true, Bool.and_eq_false_iff, Bool.or_eq_false_iff, Int.not_le, Int.not_lt] at c3'
        refine RunC.skip ?_
        refine RunE.block_normal ?_
        refine RunE.next ?_
        refine RunC.region ?_
        refine RunL.val (Val.add rfl rfl (IntWalk.i64_in _ ⟨by decide, by decide⟩)) rfl rfl rfl ?_
        refine RunL.val (Val.pure rfl) rfl rfl rfl ?_
        refine RunL.nil ?_
        refine RunE.keep (Sub.cons (t := 3) rfl (Sub.cons (t := 4) rfl (Sub.cons (t := 5) rfl (Sub.cons (t := 6) rfl (Sub.cons (t := 7) rfl (Sub.cons (t := 22) rfl (Sub.cons (t := 23) rfl (Sub.cons (t := 24) rfl (Sub.cons (t := 39) rfl (Sub.cons (t := 40) rfl (Sub.nil _))))))))))) (.cons (.there .here) rfl (.cons (.there .here) rfl (.cons (.there .here) rfl .nil))) ?_
        refine RunE.rounds ?_
        refine RunC.seq ?_
        refine RunC.region ?_
        refine RunL.val (Val.pure rfl) rfl rfl rfl ?_
        refine RunL.nil ?_
        refine RunE.next ?_
        refine RunC.seq ?_
        refine RunC.cond rfl ?_ (fun h => absurd h (by decide))
        intro c2
        clear c2
        refine RunC.skip ?_
        refine RunE.next ?_
        refine RunC.seq ?_
        refine RunC.block ?_
        refine RunC.seq ?_
        refine RunC.region ?_
        refine RunL.val (Val.indexN rfl rfl arrN_118 (by decide) (by decide) rfl) rfl rfl rfl ?_
        refine RunL.new (New.alloc zero_117) rfl rfl rfl (fun b9 => ?_)
        refine RunL.sto (Sto.store rfl rfl .here ty_117 rfl rfl) rfl rfl ?_
        refine RunL.nil ?_
        refine RunE.next ?_
        refine RunC.seq ?_
        refine RunC.draw 8 fol_ (.cons .here rfl (.cons .here rfl (.cons .here rfl (.cons .here rfl .nil)))) ?_
        refine RunA.val (i := 0) rfl (by kernel_rfl) (by kernel_rfl) (Val.fieldAddr rfl fld_117_0) rfl rfl rfl (fun _ _ _ h => h) (.cons .here rfl (.cons .here rfl (.cons .here rfl (.cons .here rfl .nil)))) rfl ?_
        refine RunA.val (i := 1) rfl (by kernel_rfl) (by kernel_rfl) (Val.load_one rfl (.head _) ty_113 rfl) rfl rfl rfl (fun _ _ _ h => h) (.cons .here rfl (.cons .here rfl (.cons .here rfl (.cons .here rfl .nil)))) rfl ?_
        refine RunA.val (i := 2) rfl (by kernel_rfl) (by kernel_rfl) (Val.fieldAddr rfl fld_117_1) rfl rfl rfl (fun _ _ _ h => h) (.cons .here rfl (.cons .here rfl (.cons .here rfl (.cons .here rfl .nil)))) rfl ?_
        refine RunA.val (i := 3) rfl (by kernel_rfl) (by kernel_rfl) (Val.load_one rfl (.head _) ty_115 rfl) rfl rfl rfl (fun _ _ _ h => h) (.cons .here rfl (.cons .here rfl (.cons .here rfl (.cons .here rfl .nil)))) rfl ?_
        refine RunA.val (i := 4) rfl (by kernel_rfl) (by kernel_rfl) (Val.load_agg rfl (.tail _ (.head _)) ty_95 rfl) rfl rfl rfl (fun _ _ _ h => h) (.cons .here rfl (.cons .here rfl (.cons .here rfl (.cons .here rfl .nil)))) rfl ?_
        refine RunA.val (i := 6) rfl (by kernel_rfl) (by kernel_rfl) (Val.nilIface (t := pieceT _) (v := pieceP _) rfl) rfl rfl rfl (fun _ _ _ h => h) (.cons .here rfl (.cons .here rfl (.cons .here rfl (.cons .here rfl .nil)))) rfl ?_
        refine RunA.val (i := 7) rfl (by kernel_rfl) (by kernel_rfl) (Val.pure rfl) rfl rfl rfl (fun _ _ _ h => h) (.cons .here rfl (.cons .here rfl (.cons .here rfl (.cons .here rfl .nil)))) rfl ?_
        refine RunA.one (i := 5) (by kernel_rfl) (by kernel_rfl) ?_
        refine RunI.callP rfl (isCall_value rfl rfl ent_83) rfl rfl rfl (fun w hm => fit2_calls x w) (RunK.toA (.cons .here rfl (.cons .here rfl (.cons .here rfl (.cons .here rfl .nil)))) (.cons .here rfl (.cons .here rfl (.cons .here rfl (.cons .here rfl .nil)))) rfl ?_)
        refine RunA.toB (by kernel_rfl) ?_
        refine RunB.one (i := 8) (by kernel_rfl) ?_
        refine RunI.callP rfl (isCall_piece rfl rfl) rfl rfl rfl (fun w hm => suits_calls _ _ (by first | exact ht.1 | exact ht.2) (by first | exact hxs.1 | exact hxs.2) w) (RunK.toB ?_)
        refine RunB.one (i := 9) (by kernel_rfl) ?_
        refine RunI.val rfl (Val.pure rfl) rfl rfl rfl (RunK.toB ?_)
        refine RunB.done (by kernel_rfl) ?_
        refine RunE.next ?_
        refine RunC.cond rfl ?_ ?_
        · intro c3
          have c3' := c3; clear c3
          try simp only [decide_eq_true_eq, decide_eq_false_iff_not, Bool.not_eq_true', Bool.not_eq_false', Bool.and_eq_true, Bool.or_eq_true, Bool.and_eq_false_iff, Bool.or_eq_false_iff, Int.not_le, Int.not_lt] at c3'
          have hf : fitX t x = false := by simp [fitX, c3']
          refine RunC.exit ?_
          refine RunE.block_other rfl ?_
          refine RunE.pass_exit ?_
          refine RunE.pass_exit ?_
          refine RunE.block_other rfl ?_
          refine RunE.pass_exit ?_
          refine RunE.block_here ?_
          refine RunE.next ?_
          refine RunC.region ?_
          refine RunL.val (Val.add rfl rfl (IntWalk.i64_in _ ⟨by omega, by omega⟩)) rfl rfl rfl ?_
          refine RunL.val (Val.pure rfl) rfl rfl rfl ?_
          refine RunL.nil ?_
          exact RunE.round (by omega) trivial rfl (Sub.consE (t := 24) rfl rfl (Sub.consE (t := 4) rfl (by rw [fits_step hk hx, hf]; simp) (Sub.cons (t := 3) rfl (Sub.cons (t := 5) rfl (Sub.cons (t := 22) rfl (Sub.cons (t := 23) rfl (Sub.nil _))))))) (.cons (.there (.there .here)) rfl (.cons (.there (.there .here)) rfl .nil))
        · intro c3
          have c3' := c3; clear c3
          try simp only [decide_eq_true_eq, decide_eq_false_iff_not, Bool.not_eq_true', Bool.not_eq_false', Bool.and_eq_true, Bool.or_eq_true, Bool.and_eq_false_iff, Bool.or_eq_false_iff, Int.not_le, Int.not_lt] at c3'
          refine RunC.skip ?_
          refine RunE.block_normal ?_
          refine RunE.next ?_
          refine RunC.region ?_
          refine RunL.val (Val.add rfl rfl (IntWalk.i64_in _ ⟨by decide, by decide⟩)) rfl rfl rfl ?_
          refine RunL.val (Val.pure rfl) rfl rfl rfl ?_
          refine RunL.nil ?_
          refine RunE.keep (Sub.cons (t := 3) rfl (Sub.cons (t := 4) rfl (Sub.cons (t := 5) rfl (Sub.cons (t := 6) rfl (Sub.cons (t := 7) rfl (Sub.cons (t := 22) rfl (Sub.cons (t := 23) rfl (Sub.cons (t := 24) rfl (Sub.cons (t := 39) rfl (Sub.cons (t := 40) rfl (Sub.nil _))))))))))) (.cons (.there .here) rfl (.cons (.there .here) rfl (.cons (.there .here) rfl .nil))) ?_
          refine RunE.rounds ?_
          refine RunC.seq ?_
          refine RunC.region ?_
          refine RunL.val (Val.pure rfl) rfl rfl rfl ?_
          refine RunL.nil ?_
          refine RunE.next ?_
          refine RunC.seq ?_
          refine RunC.cond rfl (fun h => absurd h (by decide)) ?_
          intro c2
          clear c2
          refine RunC.exit ?_
          refine RunE.pass_exit ?_
          refine RunE.pass_exit ?_
          refine RunE.block_here ?_
          refine RunE.next ?_
          refine RunC.region ?_
          have hf : fitX t x = true := by (have q1 : suitsX t.number x.number = true := (by assumption); have q2 : suitsX t.text x.title = true := (by assumption); simp [fitX, q1, q2, hcol])
          refine RunL.val (Val.pure rfl) rfl rfl rfl ?_
          refine RunL.val (Val.pure rfl) rfl rfl rfl ?_
          refine RunL.val (Val.shl1 (b := k) rfl rfl (by show k ≤ 64; omega) (u64_in (n := 2 ^ k) (by omega))) rfl rfl rfl ?_
          refine RunL.new (New.buildSlice (parts := [(0, .tmp 54), (1, .tmp 56)]) rfl sl_70 zero_68 rfl rfl rfl rfl) rfl rfl rfl (fun b57 => ?_)
          refine RunL.callP (isCall_func rfl ent_46) rfl rfl rfl (fun w hm => union2_calls (fitsL t 0 (es.take k)) (2 ^ k) (by omega) (by omega) b57 w (hm.at (.head _))) ?_
          refine RunL.val (Val.pure rfl) rfl rfl rfl ?_
          refine RunL.nil ?_
          refine RunE.block_normal ?_
          refine RunE.next ?_
          refine RunC.region ?_
          refine RunL.val (Val.add rfl rfl (IntWalk.i64_in _ ⟨by omega, by omega⟩)) rfl rfl rfl ?_
          refine RunL.val (Val.pure rfl) rfl rfl rfl ?_
          refine RunL.nil ?_
          exact RunE.round (by omega) trivial rfl (Sub.consE (t := 24) rfl rfl (Sub.consE (t := 4) rfl (by rw [fits_step hk hx, hf]; simp) (Sub.cons (t := 3) rfl (Sub.cons (t := 5) rfl (Sub.cons (t := 22) rfl (Sub.cons (t := 23) rfl (Sub.nil _))))))) (.cons (.there (.there .here)) rfl (.cons (.there (.there .here)) rfl .nil))
  · intro c0
    have c0' := c0; clear c0
    try simp only [decide_eq_true_eq, decide_eq_false_iff_not, Bool.not_eq_true', Bool.not_eq_false', Bool.and_eq_true, Bool.or_eq_true, Bool.and_eq_false_iff, Bool.or_eq_false_iff, Int.not_le, Int.not_lt] at c0'
    obtain rfl : k = es.length := by omega
    simp only [List.take_length]
    refine RunC.exit ?_
    refine RunE.pass_exit ?_
    refine RunE.pass_exit ?_
    refine RunE.block_here ?_
    refine RunE.next ?_
    refine RunC.seq ?_
    refine RunC.region ?_
    refine RunL.val (Val.pure rfl) rfl rfl rfl ?_
    refine RunL.val (Val.pure rfl) rfl rfl rfl ?_
    refine RunL.nil ?_
    refine RunE.next ?_
    refine RunC.ret ?_
    refine RunE.scope_ret ?_
    exact RunE.retP (.r1 rfl (.tmp rfl)) (by first | rfl | simp)
end Go.Proofs.YtlhdalcipflblaaDoor
/- Walks of package heap: numbers as texts, opening boxes with a heap. -/
set_option linter.unusedSimpArgs false
set_option linter.unusedVariables false
namespace Go.Hp
open Go Go.Eng Go.Pw1
def dig36 : Str := [48,49,50,51,52,53,54,55,56,57,97,98,99,100,101,102,103,104,105,106,107,108,109,110,111,112,113,114,115,116,117,118,119,120,121,122]
def dig200 : Str := [48,48,48,49,48,50,48,51,48,52,48,53,48,54,48,55,48,56,48,57,49,48,49,49,49,50,49,51,49,52,49,53,49,54,49,55,49,56,49,57,50,48,50,49,50,50,50,51,50,52,50,53,50,54,50,55,50,56,50,57,51,48,51,49,51,50,51,51,51,52,51,53,51,54,51,55,51,56,51,57,52,48,52,49,52,50,52,51,52,52,52,53,52,54,52,55,52,56,52,57,53,48,53,49,53,50,53,51,53,52,53,53,53,54,53,55,53,56,53,57,54,48,54,49,54,50,54,51,54,52,54,53,54,54,54,55,54,56,54,57,55,48,55,49,55,50,55,51,55,52,55,53,55,54,55,55,55,56,55,57,56,48,56,49,56,50,56,51,56,52,56,53,56,54,56,55,56,56,56,57,57,48,57,49,57,50,57,51,57,52,57,53,57,54,57,55,57,56,57,57]
theorem dig200_len : dig200.length = 200 := by kernel_rfl
theorem small_all : (List.range 100).all (fun n => if n < 10 then decide ((dig36.drop n).take 1 = itoa n) else decide ((dig200.drop (2 * n)).take 2 = itoa n)) = true := by kernel_rfl
theorem small1 {n : Nat} (h : n < 10) : (dig36.drop n).take (n + 1 - n) = itoa n := by
  have := List.all_eq_true.1 small_all n (List.mem_range.2 (by omega))
  rw [if_pos h] at this
  rw [Nat.add_sub_cancel_left]
  exact of_decide_eq_true this
theorem small2 {n : Nat} (h : ¬ n < 10) (h2 : n < 100) : (dig200.drop (n * 2)).take (n * 2 + 2 - n * 2) = itoa n := by
  have := List.all_eq_true.1 small_all n (List.mem_range.2 h2)
  rw [if_neg h] at this
  rw [Nat.add_sub_cancel_left, Nat.mul_comm]
  exact of_decide_eq_true this
theorem itoa_len (n : Nat) : (itoa n).length ≤ 2 := by unfold itoa; split <;> simp
def esX (m : MxA) : List En := entriesX (m.bxs.map (·.bx))
def enK (m : MxA) (k : Nat) : List En := entriesX ((m.bxs.take k).map (·.bx))
theorem enK_snoc {m : MxA} {k : Nat} (hk : k < m.bxs.length) {x : BxA} (hx : m.bxs[k] = x) : enK m (k + 1) = enK m k ++ boxEn x.bx.colour 0 x.bx.titles := by
  unfold enK
  rw [List.take_succ_eq_append_getElem hk, List.map_append, hx]
  exact entries_snoc _ _
theorem enK_all (m : MxA) : enK m m.bxs.length = esX m := by unfold enK esX; rw [List.take_length]
theorem enK_len {m : MxA} (h : MSm m) (k : Nat) : (enK m k).length ≤ k * 1000 := by
  unfold enK
  rw [entries_len]
  exact many_le (fun x hx => (h.ti x hx).n) k
theorem many_mem {l : List BxA} {x : BxA} (h : x ∈ l) : x.bx.titles.length ≤ manyX (l.map (·.bx)) := by
  induction l with
  | nil => cases h
  | cons y l ih =>
    have e : manyX ((y :: l).map (·.bx)) = y.bx.titles.length + manyX (l.map (·.bx)) := by simp [manyX]
    rw [e]
    rcases List.mem_cons.1 h with rfl | h
    · omega
    · have := ih h; omega
theorem mixed_ok {m : MxA} (h : mixedX m.pl = true) : m.bxs.length ≤ 4 ∧ m.cards.length ≤ 8 ∧ (esX m).length ≤ 12 := by
  unfold mixedX at h
  simp only [Bool.and_eq_true] at h
  obtain ⟨⟨⟨⟨a1, a2⟩, _⟩, a5⟩, _⟩ := h
  have a3 : (m.bxs.map (·.bx)).length ≤ 4 := of_decide_eq_true a1
  have a4 : m.cards.length ≤ 8 := of_decide_eq_true a2
  have a6 : manyX (m.bxs.map (·.bx)) ≤ 12 := of_decide_eq_true a5
  rw [List.length_map] at a3
  exact ⟨a3, a4, by unfold esX; rw [entries_len]; exact a6⟩
theorem boxEn_mem {c : Int} : ∀ {l : List Str} {i : Nat} {x : En}, x ∈ boxEn c i l → x.number.length ≤ 2 ∧ x.title ∈ l
  | [], i, x, h => by cases h
  | t :: l, i, x, h => by
    rcases List.mem_cons.1 h with rfl | h
    · exact ⟨itoa_len _, by simp⟩
    · obtain ⟨h1, h2⟩ := boxEn_mem h
      exact ⟨h1, List.mem_cons_of_mem _ h2⟩
theorem en_small {m : MxA} (h : MSm m) : ∀ x ∈ esX m, x.number.length ≤ 1000000 ∧ x.title.length ≤ 1000000 := fun x hx => by
  unfold esX entriesX at hx
  obtain ⟨b, hb, hx⟩ := List.mem_flatMap.1 hx
  obtain ⟨y, hy, rfl⟩ := List.mem_map.1 hb
  obtain ⟨h1, h2⟩ := boxEn_mem hx
  exact ⟨by omega, (h.ti y hy).t _ h2⟩
/-- Where a heap lies that is looked at. -/
structure Hz where
  bh : Nat
  bm : Nat
  x : Eng.Own
  y : Eng.Own
abbrev HO (m : MxA) := { z : Hz // OwnOk 3 z.x (esX m).length ((esX m).map En.cells).flatten ∧ OwnOk 1 z.y (fsX m.pl).length (setsV (fsX m.pl)).flatten }
theorem en_len (t : En) : t.cells.length = 3 := rfl
theorem en_one (t : En) : t.cells.all (·.oneCell') = true := rfl
end Go.Hp
namespace Go.Proofs.YtlhdalcipflblaaDoor
open Go Go.Eng Go.Hp Go.Pw1

set_option maxRecDepth 10000 in
theorem small_calls (n : Nat) (hn : n < 100) (W : World) : Calls Tryd.prog 94 #[.int .i64 (n : Int)] W (Pure (.string (bs (itoa n))) W) := by
  refine calls_start Tryd.func94 rfl rfl ?_
  refine RunC.seq ?_
  refine RunC.region ?_
  refine RunL.val (Val.pure rfl) rfl rfl rfl ?_
  refine RunL.nil ?_
  refine RunE.next ?_
  refine RunC.seq ?_
  refine RunC.seq ?_
  refine RunC.region ?_
  refine RunL.val (Val.pure rfl) rfl rfl rfl ?_
  refine RunL.val (Val.pure rfl) rfl rfl rfl ?_
  refine RunL.nil ?_
  refine RunE.next ?_
  refine RunC.cond rfl ?_ ?_
  · intro c0
    have c0' := c0; clear c0
    try simp only [decide_eq_true_eq, decide_eq_false_iff_not, Bool.not_eq_true', Bool.not_eq_false', Bool.and_eq_true, Bool.or_eq_true, Bool.and_eq_false_iff, Bool.or_eq_false_iff, Int.not_le, Int.not_lt] at c0'
    refine RunC.seq ?_
    refine RunC.region ?_
    refine RunL.val (Val.pure rfl) rfl rfl rfl ?_
    refine RunL.val (Val.pure rfl) rfl rfl rfl ?_
    refine RunL.val (Val.add rfl rfl (IntWalk.i64_in _ ⟨by omega, by omega⟩)) rfl rfl rfl ?_
    refine RunL.val (Val.strSlice (l := dig36) (a := n) (b := n + 1) rfl rfl rfl und_9 (by omega) (by show n + 1 ≤ 36; omega)) rfl rfl rfl ?_
    refine RunL.val (Val.pure rfl) rfl rfl rfl ?_
    refine RunL.nil ?_
    refine RunE.next ?_
    refine RunC.ret ?_
    refine RunE.pass_ret ?_
    exact RunE.retP (.r1 rfl (.tmp rfl)) (by rw [small1 (by omega)])
  · intro c0
    have c0' := c0; clear c0
    try simp only [decide_eq_true_eq, decide_eq_false_iff_not, Bool.not_eq_true', Bool.not_eq_false', Bool.and_eq_true, Bool.or_eq_true, Bool.and_eq_false_iff, Bool.or_eq_false_iff, Int.not_le, Int.not_lt] at c0'
    refine RunC.skip ?_
    refine RunE.next ?_
    refine RunC.seq ?_
    refine RunC.region ?_
    refine RunL.val (Val.pure rfl) rfl rfl rfl ?_
    refine RunL.val (Val.mulN (a := n) (b := 2) (n * 2) rfl rfl rfl (i64_inN (by omega))) rfl rfl rfl ?_
    refine RunL.val (Val.pure rfl) rfl rfl rfl ?_
    refine RunL.val (Val.mulN (a := n) (b := 2) (n * 2) rfl rfl rfl (i64_inN (by omega))) rfl rfl rfl ?_
    refine RunL.val (Val.addN (a := n * 2) (b := 2) (n * 2 + 2) rfl rfl rfl (i64_inN (by omega))) rfl rfl rfl ?_
    refine RunL.val (Val.strSlice (l := dig200) (a := n * 2) (b := n * 2 + 2) rfl rfl rfl und_9 (by omega) (by rw [dig200_len]; omega)) rfl rfl rfl ?_
    refine RunL.val (Val.pure rfl) rfl rfl rfl ?_
    refine RunL.nil ?_
    refine RunE.next ?_
    refine RunC.ret ?_
    exact RunE.retP (.r1 rfl (.tmp rfl)) (by rw [small2 (by omega) hn])
theorem format_calls (n : Nat) (hn : n < 100) (W : World) : Calls Tryd.prog 92 #[.int .i64 (n : Int), .int .i64 10] W (Pure (.string (bs (itoa n))) W) := by
  refine calls_start Tryd.func92 rfl rfl ?_
  refine RunC.seq ?_
  refine RunC.region ?_
  refine RunL.val (Val.pure rfl) rfl rfl rfl ?_
  refine RunL.nil ?_
  refine RunE.next ?_
  refine RunC.seq ?_
  refine RunC.seq ?_
  refine RunC.region ?_
  refine RunL.val (Val.pure rfl) rfl rfl rfl ?_
  refine RunL.val (Val.pure rfl) rfl rfl rfl ?_
  refine RunL.nil ?_
  refine RunE.next ?_
  refine RunC.cond rfl ?_ (fun h => absurd h (by simp))
  intro c0
  clear c0
  refine RunC.seq ?_
  refine RunC.seq ?_
  refine RunC.region ?_
  iterate 3 refine RunL.val (Val.pure rfl) rfl rfl rfl ?_
  refine RunL.andPart (dj := 14) (dp := 17) 3 rfl (fun g14 => by
    have g14' := g14
    try simp only [decide_eq_true_eq, decide_eq_false_iff_not, Bool.not_eq_true', Bool.not_eq_false', Bool.and_eq_true, Bool.or_eq_true, Bool.and_eq_false_iff, Bool.or_eq_false_iff, Int.not_le, Int.not_lt] at g14'
    iterate 3 refine RunL.val (Val.pure rfl) rfl rfl rfl ?_
    exact RunL.segEnd (Sub.cons rfl (Sub.skip rfl (Sub.skip rfl (Sub.skip rfl (Sub.same rfl (by rw [g14]) (Sub.refl _)))))) (List.Sublist.refl _)
  ) (fun g14 => by
    have g14' := g14
    try simp only [decide_eq_true_eq, decide_eq_false_iff_not, Bool.not_eq_true', Bool.not_eq_false', Bool.and_eq_true, Bool.or_eq_true, Bool.and_eq_false_iff, Bool.or_eq_false_iff, Int.not_le, Int.not_lt] at g14'
    refine RunL.no rfl rfl rfl ?_
    refine RunL.no rfl rfl rfl ?_
    refine RunL.val (Val.pure rfl) rfl rfl rfl ?_
    exact RunL.segEnd (Sub.cons rfl (Sub.skip rfl (Sub.skip rfl (Sub.skip rfl (Sub.same rfl (by rw [g14]) (Sub.refl _)))))) (List.Sublist.refl _)
  ) ?_
  refine RunL.nil ?_
  refine RunE.next ?_
  refine RunC.cond rfl ?_ (fun h => absurd h (by simp; omega))
  intro c1
  clear c1
  refine RunC.seq ?_
  refine RunC.region ?_
  refine RunL.val (Val.pure rfl) rfl rfl rfl ?_
  refine RunL.callP (isCall_func rfl ent_94) rfl rfl rfl (fun w hm => small_calls n hn w) ?_
  refine RunL.val (Val.pure rfl) rfl rfl rfl ?_
  refine RunL.nil ?_
  refine RunE.next ?_
  refine RunC.ret ?_
  refine RunE.pass_ret ?_
  refine RunE.pass_ret ?_
  exact RunE.retP (.r1 rfl (.tmp rfl)) (by first | rfl | simp)
theorem itoaI_calls (n : Nat) (hn : n < 100) (W : World) : Calls Tryd.prog 80 #[.int .i64 (n : Int)] W (Pure (.string (bs (itoa n))) W) := by
  refine calls_start Tryd.func80 rfl rfl ?_
  refine RunC.seq ?_
  refine RunC.region ?_
  refine RunL.val (Val.pure rfl) rfl rfl rfl ?_
  refine RunL.nil ?_
  refine RunE.next ?_
  refine RunC.seq ?_
  refine RunC.region ?_
  refine RunL.val (Val.pure rfl) rfl rfl rfl ?_
  refine RunL.callP (isCall_func rfl ent_92) rfl rfl rfl (fun w hm => format_calls n hn w) ?_
  refine RunL.val (Val.pure rfl) rfl rfl rfl ?_
  refine RunL.nil ?_
  refine RunE.next ?_
  refine RunC.ret ?_
  exact RunE.retP (.r1 rfl (.tmp rfl)) (by first | rfl | simp)
theorem itoa_calls (n : Nat) (hn : n < 100) (W : World) : Calls Tryd.prog 63 #[.int .i64 (n : Int)] W (Pure (.string (bs (itoa n))) W) := by
  refine calls_start Tryd.func63 rfl rfl ?_
  refine RunC.seq ?_
  refine RunC.region ?_
  refine RunL.val (Val.pure rfl) rfl rfl rfl ?_
  refine RunL.nil ?_
  refine RunE.next ?_
  refine RunC.seq ?_
  refine RunC.region ?_
  refine RunL.val (Val.pure rfl) rfl rfl rfl ?_
  refine RunL.callP (isCall_func rfl ent_80) rfl rfl rfl (fun w hm => itoaI_calls n hn w) ?_
  refine RunL.val (Val.pure rfl) rfl rfl rfl ?_
  refine RunL.nil ?_
  refine RunE.next ?_
  refine RunC.ret ?_
  exact RunE.retP (.r1 rfl (.tmp rfl)) (by first | rfl | simp)
theorem openH_err (m : MxA) (hsm : MSm m) (W : World) (hM : MOk W m) (hX : mixedX m.pl = false) : Calls Tryd.prog 39 #[m.v] W (Pure (.tuple #[.pointer none, .int .i64 1]) W) := by
  refine calls_start Tryd.func39 rfl rfl ?_
  refine RunC.seq ?_
  refine RunC.region ?_
  refine RunL.new (New.box rfl) rfl rfl rfl (fun b1 => ?_)
  refine RunL.val (Val.pure rfl) rfl rfl rfl ?_
  refine RunL.val (Val.pure rfl) rfl rfl rfl ?_
  refine RunL.nil ?_
  refine RunE.next ?_
  refine RunC.seq ?_
  refine RunC.seq ?_
  refine RunC.region ?_
  refine RunL.val (Val.load_agg rfl (.head _) ty_25 rfl) rfl rfl rfl ?_
  refine RunL.callP (isCall_func rfl ent_62) rfl rfl rfl (fun w hm => (by have h9 := isMixed_calls m hsm w (hM.mono0 hm); rw [hX] at h9; exact h9)) ?_
  refine RunL.val (Val.pure rfl) rfl rfl rfl ?_
  refine RunL.nil ?_
  refine RunE.next ?_
  refine RunC.cond rfl ?_ (fun h => absurd h (by simp))
  intro c0
  clear c0
  refine RunC.seq ?_
  refine RunC.region ?_
  refine RunL.val (Val.pure rfl) rfl rfl rfl ?_
  refine RunL.val (Val.pure rfl) rfl rfl rfl ?_
  refine RunL.nil ?_
  refine RunE.next ?_
  refine RunC.ret ?_
  refine RunE.pass_ret ?_
  exact RunE.retP (.r2 rfl (.tmp rfl) (.tmp rfl)) (by first | rfl | simp)
set_option maxHeartbeats 1000000 in
theorem openH_calls (m : MxA) (hsm : MSm m) (W : World) (hM : MOk W m) (hX : mixedX m.pl = true) : Calls Tryd.prog 39 #[m.v] W
    (News (fun z : HO m => .tuple #[.pointer (some ⟨z.1.bh, 0, none⟩), .int .i64 0]) (fun z => [(z.1.bh, .cells [.slice m.q m.bxs.length m.cap, .slice m.q2 m.cards.length m.cap2, .slice (ownQ z.1.x) (esX m).length (ownC z.1.x), .slice (ownQ z.1.y) (fsX m.pl).length (ownC z.1.y), .map (some z.1.bm)].toArray 73 (0, 0)), (z.1.bm, mapG [])] ++
      (ownB 68 z.1.y (setsV (fsX m.pl)).flatten ++ (ownB 95 z.1.x ((esX m).map En.cells).flatten ++ []))) W) := by
  obtain ⟨hb4, hc8, he12⟩ := mixed_ok hX
  have hen := en_small hsm
  have hman : manyX (m.bxs.map (·.bx)) = (esX m).length := (entries_len _).symm
  refine calls_start Tryd.func39 rfl rfl ?_
  refine RunC.seq ?_
  refine RunC.region ?_
  refine RunL.new (New.box rfl) rfl rfl rfl (fun b1 => ?_)
  refine RunL.val (Val.pure rfl) rfl rfl rfl ?_
  refine RunL.val (Val.pure rfl) rfl rfl rfl ?_
  refine RunL.nil ?_
  refine RunE.next ?_
  refine RunC.seq ?_
  refine RunC.seq ?_
  refine RunC.region ?_
  refine RunL.val (Val.load_agg rfl (.head _) ty_25 rfl) rfl rfl rfl ?_
  refine RunL.callP (isCall_func rfl ent_62) rfl rfl rfl (fun w hm => (by have h9 := isMixed_calls m hsm w (hM.mono0 hm); rw [hX] at h9; exact h9)) ?_
  refine RunL.val (Val.pure rfl) rfl rfl rfl ?_
  refine RunL.nil ?_
  refine RunE.next ?_
  refine RunC.cond rfl (fun h => absurd h (by simp)) ?_
  intro c0
  clear c0
  refine RunC.skip ?_
  refine RunE.next ?_
  refine RunC.seq ?_
  refine RunC.region ?_
  refine RunL.val (Val.load_agg rfl (.head _) ty_25 rfl) rfl rfl rfl ?_
  refine RunL.new New.makeMapG rfl rfl rfl (fun b15 => ?_)
  refine RunL.val (Val.build (parts := [(0, .tmp 14), (3, .tmp 15)]) rfl zero_73 places_73 rfl) rfl rfl rfl ?_
  refine RunL.new (New.box rfl) rfl rfl rfl (fun b17 => ?_)
  refine RunL.val (Val.pure rfl) rfl rfl rfl ?_
  refine RunL.nil ?_
  refine RunE.next ?_
  refine RunC.seq ?_
  refine RunC.seq ?_
  refine RunC.region ?_
  refine RunL.val (Val.fieldAddr rfl fld_25_0) rfl rfl rfl ?_
  refine RunL.val (Val.load_one rfl (.tail _ (.tail _ (.head _))) ty_22 rfl) rfl rfl rfl ?_
  refine RunL.val (Val.len_sl rfl sl_22) rfl rfl rfl ?_
  refine RunL.val (Val.pure rfl) rfl rfl rfl ?_
  refine RunL.nil ?_
  refine RunE.next ?_
  refine RunC.block ?_
  refine RunC.loopX (X := Eng.Own) (n0 := [(b15, _), (b1, _)]) (m.bxs.length) (fun k x q => (21, .int .i64 (k : Int)) :: q) (fun _ _ => _) (fun k x => [(b17, .cells [.slice m.q m.bxs.length m.cap, .slice m.q2 m.cards.length m.cap2, ownV x (enK m k).length, .slice none 0 0, .map (some b15)].toArray 73 (0, 0))]) (fun k x => ownB 95 x ((enK m k).map En.cells).flatten ++ []) (fun k x => OwnOk 3 x (enK m k).length ((enK m k).map En.cells).flatten) none OwnOk.start rfl (Sub.consE (t := 21) rfl rfl (Sub.cons (t := 1) rfl (Sub.cons (t := 4) rfl (Sub.cons (t := 19) rfl (Sub.cons (t := 20) rfl (Sub.nil _)))))) (.cons .here rfl (.cons .here rfl (.cons .here rfl (Pick.same rfl)))) ?_
  intro k x kN kI
  have hx1 := kI
  refine RunC.seq ?_
  refine RunC.region ?_
  refine RunL.val (Val.pure rfl) rfl rfl rfl ?_
  refine RunL.nil ?_
  refine RunE.next ?_
  refine RunC.seq ?_
  refine RunC.cond rfl ?_ ?_
  · intro c1
    have c1' := c1; clear c1
    try simp only [decide_eq_true_eq, decide_eq_false_iff_not, Bool.not_eq_true', Bool.not_eq_false', Bool.and_eq_true, Bool.or_eq_true, Bool.and_eq_false_iff, Bool.or_eq_false_iff, Int.not_le, Int.not_lt] at c1'
    have hk : k < m.bxs.length := by omega
    obtain ⟨B, hB⟩ : ∃ B, m.bxs[k] = B := ⟨_, rfl⟩
    have hBm : B ∈ m.bxs := hB ▸ List.getElem_mem hk
    have hBl := many_mem hBm
    have hBT := hM.ti B hBm
    refine RunC.skip ?_
    refine RunE.next ?_
    refine RunC.seq ?_
    refine RunC.block ?_
    refine RunC.seq ?_
    refine RunC.region ?_
    refine RunL.val (Val.indexAddr_slp rfl rfl sl_22 (by omega) (by omega) (hM.bx.ptrM hk)) rfl rfl rfl ?_
    refine RunL.val (Val.load_gen rfl (fun w hm => hM.bx.loadX (by decide) hm (by simp) ty_46 hk hB)) rfl rfl rfl ?_
    refine RunL.new (New.alloc zero_46) rfl rfl rfl (fun b6 => ?_)
    refine RunL.sto (Sto.store rfl rfl .here ty_46 rfl rfl) rfl rfl ?_
    refine RunL.nil ?_
    refine RunE.next ?_
    refine RunC.seq ?_
    refine RunC.region ?_
    refine RunL.val (Val.fieldAddr rfl fld_46_1) rfl rfl rfl ?_
    refine RunL.val (Val.load_one rfl (.head _) ty_44 rfl) rfl rfl rfl ?_
    refine RunL.val (Val.len_sl rfl sl_44) rfl rfl rfl ?_
    refine RunL.val (Val.pure rfl) rfl rfl rfl ?_
    refine RunL.nil ?_
    refine RunE.next ?_
    refine RunC.block ?_
    refine RunC.loopX (X := Eng.Own) (n0 := [(b6, _), (b15, _), (b1, _)]) (B.bx.titles.length) (fun j y q => (28, .int .i64 (j : Int)) :: q) (fun _ _ => _) (fun j y => [(b17, .cells [.slice m.q m.bxs.length m.cap, .slice m.q2 m.cards.length m.cap2, ownV y (enK m k ++ boxEn B.bx.colour 0 (B.bx.titles.take j)).length, .slice none 0 0, .map (some b15)].toArray 73 (0, 0))]) (fun j y => ownB 95 y ((enK m k ++ boxEn B.bx.colour 0 (B.bx.titles.take j)).map En.cells).flatten ++ []) (fun j y => OwnOk 3 y (enK m k ++ boxEn B.bx.colour 0 (B.bx.titles.take j)).length ((enK m k ++ boxEn B.bx.colour 0 (B.bx.titles.take j)).map En.cells).flatten) x (by simpa [boxEn] using hx1) rfl (Sub.consE (t := 28) rfl rfl (Sub.cons (t := 1) rfl (Sub.cons (t := 4) rfl (Sub.cons (t := 6) rfl (Sub.cons (t := 19) rfl (Sub.cons (t := 20) rfl (Sub.cons (t := 21) rfl (Sub.cons (t := 26) rfl (Sub.cons (t := 27) rfl (Sub.nil _)))))))))) (.cons (.there .here) (by simp [boxEn]) (.cons .here rfl (.cons .here rfl (.cons .here rfl (Pick.same (by simp [boxEn])))))) ?_
    intro j y jN jI
    have hy1 := jI
    refine RunC.seq ?_
    refine RunC.region ?_
    refine RunL.val (Val.pure rfl) rfl rfl rfl ?_
    refine RunL.nil ?_
    refine RunE.next ?_
    refine RunC.seq ?_
    refine RunC.cond rfl ?_ ?_
    · intro c2
      have c2' := c2; clear c2
      try simp only [decide_eq_true_eq, decide_eq_false_iff_not, Bool.not_eq_true', Bool.not_eq_false', Bool.and_eq_true, Bool.or_eq_true, Bool.and_eq_false_iff, Bool.or_eq_false_iff, Int.not_le, Int.not_lt] at c2'
      have hj : j < B.bx.titles.length := by omega
      obtain ⟨S, hS⟩ : ∃ S, B.bx.titles[j] = S := ⟨_, rfl⟩
      have hlen : (enK m k ++ boxEn B.bx.colour 0 (B.bx.titles.take j)).length ≤ 100000 := by (rw [List.length_append, boxEn_len]; have h9 := enK_len hsm k; rw [List.length_take]; omega)
      have hS2 : enK m k ++ boxEn B.bx.colour 0 (B.bx.titles.take (j + 1)) = (enK m k ++ boxEn B.bx.colour 0 (B.bx.titles.take j)) ++ [⟨B.bx.colour, itoa (j + 1), S⟩] := by rw [List.take_succ_eq_append_getElem hj, hS, boxEn_snoc, List.append_assoc]; simp [Nat.min_eq_left (Nat.le_of_lt hj)]
      have hlen2 : (enK m k ++ boxEn B.bx.colour 0 (B.bx.titles.take j) ++ [(⟨B.bx.colour, itoa (j + 1), S⟩ : En)]).length = (enK m k ++ boxEn B.bx.colour 0 (B.bx.titles.take j)).length + 1 := by rw [List.length_append (bs := [_])]; rfl
      refine RunC.skip ?_
      refine RunE.next ?_
      refine RunC.seq ?_
      refine RunC.block ?_
      refine RunC.seq ?_
      refine RunC.region ?_
      refine RunL.val (Val.pure rfl) rfl rfl rfl ?_
      refine RunL.val (Val.indexAddr_slp rfl rfl sl_44 (by omega) (by omega) (hBT.ptrM hj)) rfl rfl rfl ?_
      refine RunL.val (Val.load_gen rfl (fun w hm => Sl.loadM1 hBT (by decide) hm (by simp) ty_9 hj (v := .string (bs S)) (by simp [hS]))) rfl rfl rfl ?_
      refine RunL.val (Val.pure rfl) rfl rfl rfl ?_
      refine RunL.val (Val.pure rfl) rfl rfl rfl ?_
      refine RunL.nil ?_
      refine RunE.next ?_
      refine RunC.draw 14 fol_ (.cons .here rfl (.cons .here rfl (.cons .here rfl (.cons .here rfl .nil)))) ?_
      refine RunA.val (i := 0) rfl (by kernel_rfl) (by kernel_rfl) (Val.pure rfl) rfl rfl rfl (fun _ _ _ h => h) (.cons .here rfl (.cons .here rfl (.cons .here rfl (.cons .here rfl .nil)))) rfl ?_
      refine RunA.val (i := 1) rfl (by kernel_rfl) (by kernel_rfl) (Val.pure rfl) rfl rfl rfl (fun _ _ _ h => h) (.cons .here rfl (.cons .here rfl (.cons .here rfl (.cons .here rfl .nil)))) rfl ?_
      refine RunA.val (i := 2) rfl (by kernel_rfl) (by kernel_rfl) (Val.pure rfl) rfl rfl rfl (fun _ _ _ h => h) (.cons .here rfl (.cons .here rfl (.cons .here rfl (.cons .here rfl .nil)))) rfl ?_
      refine RunA.val (i := 3) rfl (by kernel_rfl) (by kernel_rfl) (Val.fieldAddr rfl fld_73_1) rfl rfl rfl (fun _ _ _ h => h) (.cons .here rfl (.cons .here rfl (.cons .here rfl (.cons .here rfl .nil)))) rfl ?_
      refine RunA.val (i := 4) rfl (by kernel_rfl) (by kernel_rfl) (Val.load_one rfl (.head _) ty_69 rfl) rfl rfl rfl (fun _ _ _ h => h) (.cons .here rfl (.cons .here rfl (.cons .here rfl (.cons .here rfl .nil)))) rfl ?_
      refine RunA.val (i := 5) rfl (by kernel_rfl) (by kernel_rfl) (Val.fieldAddr rfl fld_46_0) rfl rfl rfl (fun _ _ _ h => h) (.cons .here rfl (.cons .here rfl (.cons .here rfl (.cons .here rfl .nil)))) rfl ?_
      refine RunA.val (i := 6) rfl (by kernel_rfl) (by kernel_rfl) (Val.load_one rfl (.tail _ (.head _)) ty_3 rfl) rfl rfl rfl (fun _ _ _ h => h) (.cons .here rfl (.cons .here rfl (.cons .here rfl (.cons .here rfl .nil)))) rfl ?_
      refine RunA.val (i := 7) rfl (by kernel_rfl) (by kernel_rfl) (Val.pure rfl) rfl rfl rfl (fun _ _ _ h => h) (.cons .here rfl (.cons .here rfl (.cons .here rfl (.cons .here rfl .nil)))) rfl ?_
      refine RunA.val (i := 8) rfl (by kernel_rfl) (by kernel_rfl) (Val.add rfl rfl (IntWalk.i64_in _ ⟨by omega, by omega⟩)) rfl rfl rfl (fun _ _ _ h => h) (.cons .here rfl (.cons .here rfl (.cons .here rfl (.cons .here rfl .nil)))) rfl ?_
      refine RunA.val (i := 10) rfl (by kernel_rfl) (by kernel_rfl) (Val.pure rfl) rfl rfl rfl (fun _ _ _ h => h) (.cons .here rfl (.cons .here rfl (.cons .here rfl (.cons .here rfl .nil)))) rfl ?_
      refine RunA.one (i := 9) (by kernel_rfl) (by kernel_rfl) ?_
      refine RunI.callP rfl (isCall_func rfl ent_63) rfl rfl rfl (fun w hm => itoa_calls (j + 1) (by omega) w) (RunK.toA (.cons .here rfl (.cons .here rfl (.cons .here rfl (.cons .here rfl .nil)))) (.cons .here rfl (.cons .here rfl (.cons .here rfl (.cons .here rfl .nil)))) rfl ?_)
      refine RunA.val (i := 11) rfl (by kernel_rfl) (by kernel_rfl) (Val.build (parts := [(0, .tmp 39), (1, .tmp 42), (2, .tmp 43)]) rfl zero_95 places_95 rfl) rfl rfl rfl (fun _ _ _ h => h) (.cons .here rfl (.cons .here rfl (.cons .here rfl (.cons .here rfl .nil)))) rfl ?_
      refine RunA.one (i := 12) (by kernel_rfl) (by kernel_rfl) ?_
      refine RunI.new rfl (New.buildSlice (parts := [(0, .tmp 44)]) rfl sl_69 zero_95 rfl rfl rfl rfl) rfl rfl rfl (fun b45 => (RunK.toA (.cons .here rfl (.cons .here rfl (.cons .here rfl (.cons .here rfl (.cons .here rfl .nil))))) (.cons (.there .here) rfl (.cons (.there .here) rfl (.cons (.there .here) rfl (.cons (.there .here) rfl .nil)))) rfl ?_))
      refine RunA.one (i := 13) (by kernel_rfl) (by kernel_rfl) ?_
      refine RunI.append (A := [(b45, _), (b17, _), (b6, _), (b15, _), (b1, _)]) (B := _) (x := y) (ys := (En.cells ⟨B.bx.colour, itoa (j + 1), S⟩)) rfl ap_69 rfl rfl rfl hy1 rfl (fun h => by cases h) (fun w hm => src_blk (hm.at (.head _))) (one_of (en_one _)) (by simp only [maxLen]; omega) (by omega) rfl (fun z46 hz46 => (RunK.toA (.cons .here rfl (.cons .here rfl (.cons .here rfl (.cons .here rfl (.cons .here rfl .nil))))) (.cons .here rfl (.cons .here rfl (.cons .here rfl (.cons .here rfl (.cons .here rfl .nil))))) rfl ?_))
      refine RunA.toB (by kernel_rfl) ?_
      refine RunB.one (i := 14) (by kernel_rfl) ?_
      obtain ⟨bz46, cz46, rz46, rfl, lz461, lz462, lz463⟩ := hz46.has (by simp)
      refine RunI.val rfl (Val.pure rfl) rfl rfl rfl (RunK.toB ?_)
      refine RunB.one (i := 15) (by kernel_rfl) ?_
      refine RunI.val rfl (Val.fieldAddr rfl fld_73_1) rfl rfl rfl (RunK.toB ?_)
      refine RunB.one (i := 16) (by kernel_rfl) ?_
      refine RunI.sto rfl (Sto.store rfl rfl (.there .here) ty_69 rfl rfl) rfl rfl (RunK.toB ?_)
      refine RunB.done (by kernel_rfl) ?_
      refine RunE.block_normal ?_
      refine RunE.next ?_
      refine RunC.region ?_
      refine RunL.val (Val.add rfl rfl (IntWalk.i64_in _ ⟨by omega, by omega⟩)) rfl rfl rfl ?_
      refine RunL.val (Val.pure rfl) rfl rfl rfl ?_
      refine RunL.nil ?_
      exact RunE.roundX (some (bz46, cz46, rz46)) (by omega) (by rw [hS2, ← flat_snoc, hlen2]; exact hz46) rfl (Sub.consE (t := 28) rfl rfl (Sub.cons (t := 1) rfl (Sub.cons (t := 4) rfl (Sub.cons (t := 6) rfl (Sub.cons (t := 19) rfl (Sub.cons (t := 20) rfl (Sub.cons (t := 21) rfl (Sub.cons (t := 26) rfl (Sub.cons (t := 27) rfl (Sub.nil _)))))))))) (.cons (.there .here) (by rw [hS2, hlen2]) (.cons (.there .here) rfl (.cons (.there .here) rfl (.cons (.there .here) rfl (.cons (.there .here) (by rw [hS2, ← flat_snoc]) .nil)))))
    · intro c2
      have c2' := c2; clear c2
      try simp only [decide_eq_true_eq, decide_eq_false_iff_not, Bool.not_eq_true', Bool.not_eq_false', Bool.and_eq_true, Bool.or_eq_true, Bool.and_eq_false_iff, Bool.or_eq_false_iff, Int.not_le, Int.not_lt] at c2'
      obtain rfl : j = B.bx.titles.length := by omega
      rw [List.take_length] at hy1
      simp only [List.take_length]
      refine RunC.exit ?_
      refine RunE.pass_exit ?_
      refine RunE.pass_exit ?_
      refine RunE.block_here ?_
      refine RunE.block_normal ?_
      refine RunE.next ?_
      refine RunC.region ?_
      refine RunL.val (Val.add rfl rfl (IntWalk.i64_in _ ⟨by omega, by omega⟩)) rfl rfl rfl ?_
      refine RunL.val (Val.pure rfl) rfl rfl rfl ?_
      refine RunL.nil ?_
      exact RunE.roundX y (by omega) (by rw [enK_snoc hk hB]; exact hy1) rfl (Sub.consE (t := 21) rfl rfl (Sub.cons (t := 1) rfl (Sub.cons (t := 4) rfl (Sub.cons (t := 19) rfl (Sub.cons (t := 20) rfl (Sub.nil _)))))) (.cons .here (by rw [enK_snoc hk hB]) (.cons (.there .here) rfl (.cons (.there .here) rfl (Pick.skip (Pick.same (by rw [enK_snoc hk hB]))))))
  · intro c1
    have c1' := c1; clear c1
    try simp only [decide_eq_true_eq, decide_eq_false_iff_not, Bool.not_eq_true', Bool.not_eq_false', Bool.and_eq_true, Bool.or_eq_true, Bool.and_eq_false_iff, Bool.or_eq_false_iff, Int.not_le, Int.not_lt] at c1'
    obtain rfl : k = m.bxs.length := by omega
    rw [enK_all] at hx1
    have y1 : ownV x (esX m).length = .slice (ownQ x) (esX m).length (ownC x) := ownV_slice hx1
    simp only [enK_all, y1]
    refine RunC.exit ?_
    refine RunE.pass_exit ?_
    refine RunE.pass_exit ?_
    refine RunE.block_here ?_
    refine RunE.next ?_
    refine RunC.seq ?_
    refine RunC.seq ?_
    refine RunC.region ?_
    refine RunL.val (Val.fieldAddr rfl fld_25_1) rfl rfl rfl ?_
    refine RunL.val (Val.load_one rfl (.tail _ (.tail _ (.head _))) ty_23 rfl) rfl rfl rfl ?_
    refine RunL.val (Val.len_sl rfl sl_23) rfl rfl rfl ?_
    refine RunL.val (Val.pure rfl) rfl rfl rfl ?_
    refine RunL.nil ?_
    refine RunE.next ?_
    refine RunC.block ?_
    refine RunC.loopX (X := Eng.Own) (n0 := [(b15, _), (b1, _)]) (m.cards.length) (fun l f q => (54, .int .i64 (l : Int)) :: q) (fun _ _ => _) (fun l f => [(b17, .cells [.slice m.q m.bxs.length m.cap, .slice m.q2 m.cards.length m.cap2, .slice (ownQ x) (esX m).length (ownC x), ownV f l, .map (some b15)].toArray 73 (0, 0))]) (fun l f => ownB 68 f (setsV ((m.cards.take l).map (fitsX m.pl))).flatten ++ (ownB 95 x ((esX m).map En.cells).flatten ++ [])) (fun l f => OwnOk 1 f l (setsV ((m.cards.take l).map (fitsX m.pl))).flatten) none OwnOk.start rfl (Sub.consE (t := 54) rfl rfl (Sub.cons (t := 1) rfl (Sub.cons (t := 4) rfl (Sub.cons (t := 52) rfl (Sub.cons (t := 53) rfl (Sub.nil _)))))) (.cons .here rfl (.cons .here rfl (.cons .here rfl (Pick.same rfl)))) ?_
    intro l f lN lI
    have hf1 := lI
    refine RunC.seq ?_
    refine RunC.region ?_
    refine RunL.val (Val.pure rfl) rfl rfl rfl ?_
    refine RunL.nil ?_
    refine RunE.next ?_
    refine RunC.seq ?_
    refine RunC.cond rfl ?_ ?_
    · intro c3
      have c3' := c3; clear c3
      try simp only [decide_eq_true_eq, decide_eq_false_iff_not, Bool.not_eq_true', Bool.not_eq_false', Bool.and_eq_true, Bool.or_eq_true, Bool.and_eq_false_iff, Bool.or_eq_false_iff, Int.not_le, Int.not_lt] at c3'
      have hl : l < m.cards.length := by omega
      obtain ⟨c, hc⟩ : ∃ c, m.cards[l] = c := ⟨_, rfl⟩
      have hct := hsm.tx c (hc ▸ List.getElem_mem hl)
      have hS3 : (setsV ((m.cards.take (l + 1)).map (fitsX m.pl))).flatten = (setsV ((m.cards.take l).map (fitsX m.pl))).flatten ++ [.int .u64 ((fitsX m.pl c : Nat) : Int)] := by rw [List.take_succ_eq_append_getElem hl, hc, List.map_append]; simp [setsV]
      refine RunC.skip ?_
      refine RunE.next ?_
      refine RunC.seq ?_
      refine RunC.block ?_
      refine RunC.seq ?_
      refine RunC.region ?_
      refine RunL.val (Val.indexAddr_slp rfl rfl sl_23 (by omega) (by omega) (hM.cd.ptrM hl)) rfl rfl rfl ?_
      refine RunL.val (Val.load_gen rfl (fun w hm => hM.cd.loadX (by decide) hm (by simp) ty_50 hl hc)) rfl rfl rfl ?_
      refine RunL.new (New.alloc zero_50) rfl rfl rfl (fun b10 => ?_)
      refine RunL.sto (Sto.store rfl rfl .here ty_50 rfl rfl) rfl rfl ?_
      refine RunL.nil ?_
      refine RunE.next ?_
      refine RunC.draw 10 fol_ (.cons .here rfl (.cons .here rfl (.cons .here rfl (.cons .here rfl .nil)))) ?_
      refine RunA.val (i := 0) rfl (by kernel_rfl) (by kernel_rfl) (Val.pure rfl) rfl rfl rfl (fun _ _ _ h => h) (.cons .here rfl (.cons .here rfl (.cons .here rfl (.cons .here rfl .nil)))) rfl ?_
      refine RunA.val (i := 1) rfl (by kernel_rfl) (by kernel_rfl) (Val.pure rfl) rfl rfl rfl (fun _ _ _ h => h) (.cons .here rfl (.cons .here rfl (.cons .here rfl (.cons .here rfl .nil)))) rfl ?_
      refine RunA.val (i := 2) rfl (by kernel_rfl) (by kernel_rfl) (Val.pure rfl) rfl rfl rfl (fun _ _ _ h => h) (.cons .here rfl (.cons .here rfl (.cons .here rfl (.cons .here rfl .nil)))) rfl ?_
      refine RunA.val (i := 3) rfl (by kernel_rfl) (by kernel_rfl) (Val.fieldAddr rfl fld_73_2) rfl rfl rfl (fun _ _ _ h => h) (.cons .here rfl (.cons .here rfl (.cons .here rfl (.cons .here rfl .nil)))) rfl ?_
      refine RunA.val (i := 4) rfl (by kernel_rfl) (by kernel_rfl) (Val.load_one rfl (.tail _ (.head _)) ty_70 rfl) rfl rfl rfl (fun _ _ _ h => h) (.cons .here rfl (.cons .here rfl (.cons .here rfl (.cons .here rfl .nil)))) rfl ?_
      refine RunA.val (i := 5) rfl (by kernel_rfl) (by kernel_rfl) (Val.pure rfl) rfl rfl rfl (fun _ _ _ h => h) (.cons .here rfl (.cons .here rfl (.cons .here rfl (.cons .here rfl .nil)))) rfl ?_
      refine RunA.val (i := 6) rfl (by kernel_rfl) (by kernel_rfl) (Val.load_agg rfl (.head _) ty_50 rfl) rfl rfl rfl (fun _ _ _ h => h) (.cons .here rfl (.cons .here rfl (.cons .here rfl (.cons .here rfl .nil)))) rfl ?_
      refine RunA.one (i := 7) (by kernel_rfl) (by kernel_rfl) ?_
      refine RunI.callP rfl (isCall_func rfl ent_64) rfl rfl rfl (fun w hm => fit_calls c hct (esX m) he12 hen b17 _ _ _ _ (ownQ x) (ownK x) (ownC x) w (hm.at (.tail _ (.head _))) (own_sl en_len (by decide) hx1 (fun b o h => hm.at (.tail _ (.tail _ (.tail _ (.tail _ ((by first | exact List.mem_append_right _ (List.mem_append_left _ h) | exact List.mem_append_right _ (List.mem_append_right _ (List.mem_append_left _ h))))))))))) (RunK.toA (.cons .here rfl (.cons .here rfl (.cons .here rfl (.cons .here rfl .nil)))) (.cons .here rfl (.cons .here rfl (.cons .here rfl (.cons .here rfl .nil)))) rfl ?_)
      refine RunA.one (i := 8) (by kernel_rfl) (by kernel_rfl) ?_
      refine RunI.new rfl (New.buildSlice (parts := [(0, .tmp 65)]) rfl sl_70 zero_68 rfl rfl rfl rfl) rfl rfl rfl (fun b66 => (RunK.toA (.cons .here rfl (.cons .here rfl (.cons .here rfl (.cons .here rfl (.cons .here rfl .nil))))) (.cons (.there .here) rfl (.cons (.there .here) rfl (.cons (.there .here) rfl (.cons (.there .here) rfl .nil)))) rfl ?_))
      refine RunA.one (i := 9) (by kernel_rfl) (by kernel_rfl) ?_
      refine RunI.append (A := [(b66, _), (b10, _), (b17, _), (b15, _), (b1, _)]) (B := _) (x := f) (ys := [.int .u64 ((fitsX m.pl c : Nat) : Int)]) rfl ap_70 rfl rfl rfl hf1 rfl (fun h => by cases h) (fun w hm => src_blk (hm.at (.head _))) (one_of rfl) (by simp only [maxLen]; omega) (by omega) rfl (fun z67 hz67 => (RunK.toA (.cons .here rfl (.cons .here rfl (.cons .here rfl (.cons .here rfl (.cons .here rfl .nil))))) (.cons .here rfl (.cons .here rfl (.cons .here rfl (.cons .here rfl (.cons .here rfl .nil))))) rfl ?_))
      refine RunA.toB (by kernel_rfl) ?_
      refine RunB.one (i := 10) (by kernel_rfl) ?_
      obtain ⟨bz67, cz67, rz67, rfl, lz671, lz672, lz673⟩ := hz67.has (by omega)
      refine RunI.val rfl (Val.pure rfl) rfl rfl rfl (RunK.toB ?_)
      refine RunB.one (i := 11) (by kernel_rfl) ?_
      refine RunI.val rfl (Val.fieldAddr rfl fld_73_2) rfl rfl rfl (RunK.toB ?_)
      refine RunB.one (i := 12) (by kernel_rfl) ?_
      refine RunI.sto rfl (Sto.store rfl rfl (.there (.there .here)) ty_70 rfl rfl) rfl rfl (RunK.toB ?_)
      refine RunB.done (by kernel_rfl) ?_
      refine RunE.block_normal ?_
      refine RunE.next ?_
      refine RunC.region ?_
      refine RunL.val (Val.add rfl rfl (IntWalk.i64_in _ ⟨by omega, by omega⟩)) rfl rfl rfl ?_
      refine RunL.val (Val.pure rfl) rfl rfl rfl ?_
      refine RunL.nil ?_
      exact RunE.roundX (some (bz67, cz67, rz67)) (by omega) (by rw [hS3]; exact hz67) rfl (Sub.consE (t := 54) rfl rfl (Sub.cons (t := 1) rfl (Sub.cons (t := 4) rfl (Sub.cons (t := 52) rfl (Sub.cons (t := 53) rfl (Sub.nil _)))))) (.cons (.there (.there .here)) rfl (.cons (.there (.there .here)) rfl (.cons (.there (.there .here)) rfl (.cons (.there (.there .here)) (by rw [hS3]) (Pick.skip (Pick.skip (Pick.refl _)))))))
    · intro c3
      have c3' := c3; clear c3
      try simp only [decide_eq_true_eq, decide_eq_false_iff_not, Bool.not_eq_true', Bool.not_eq_false', Bool.and_eq_true, Bool.or_eq_true, Bool.and_eq_false_iff, Bool.or_eq_false_iff, Int.not_le, Int.not_lt] at c3'
      obtain rfl : l = m.cards.length := by omega
      refine RunC.exit ?_
      refine RunE.pass_exit ?_
      refine RunE.pass_exit ?_
      refine RunE.block_here ?_
      refine RunE.next ?_
      refine RunC.seq ?_
      refine RunC.region ?_
      iterate 3 refine RunL.val (Val.pure rfl) rfl rfl rfl ?_
      refine RunL.nil ?_
      refine RunE.next ?_
      refine RunC.ret ?_
      rw [List.take_length] at hf1
      have y2 : ownV f m.cards.length = .slice (ownQ f) (fsX m.pl).length (ownC f) := by rw [ownV_slice hf1]; simp [fsX, MxA.pl]
      simp only [List.take_length, y2]
      exact RunE.ret (chg := []) (.r2 rfl (.tmp rfl) (.tmp rfl)) (fun _ hm => ⟨⟨⟨b17, b15, x, f⟩, hx1, (by rw [show (fsX m.pl).length = m.cards.length by simp [fsX, MxA.pl]]; exact hf1)⟩, rfl, hm.pick (.cons .here rfl (.cons .here rfl (Pick.skip (Pick.refl _))))⟩)
end Go.Proofs.YtlhdalcipflblaaDoor
/- The facts on the tables of types and on the entries of functions that the walks use. Written by program. -/
set_option linter.unusedSimpArgs false
set_option linter.unusedVariables false
namespace Go.Proofs.YtlhdalcipflblaaDoor
open Go Go.Eng
theorem ent_45 : Enters Tryd.prog 45 := enters_of Tryd.func45 (by kernel_rfl) rfl
theorem ent_68 : Enters Tryd.prog 68 := enters_of Tryd.func68 (by kernel_rfl) rfl
theorem fld_73_0 : fieldB Tryd.prog 73 0 = some 0 := by kernel_rfl
theorem fld_73_3 : fieldB Tryd.prog 73 3 = some 4 := by kernel_rfl
theorem keyed_71 : Keyed Tryd.prog 71 102 3 := ⟨by kernel_rfl, by kernel_rfl, by kernel_rfl, fun a b c d => by kernel_rfl⟩
theorem places_102 : placesB Tryd.prog 102 = some [(0, 1), (1, 1)] := by kernel_rfl
theorem ty_64 : tyB Tryd.prog 64 = some (false, 1) := by kernel_rfl
theorem ty_71 : tyB Tryd.prog 71 = some (false, 1) := by kernel_rfl
theorem ty_84 : tyB Tryd.prog 84 = some (false, 1) := by kernel_rfl
theorem zeroV_3 : zeroV Tryd.prog 3 = some (.int .i64 0) := by kernel_rfl
theorem zero_102 : zeroB Tryd.prog 102 = some [.int .i64 0, .int .u64 0] := by kernel_rfl
end Go.Proofs.YtlhdalcipflblaaDoor
