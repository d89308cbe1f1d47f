/- Layer 1 in plain words: pairs, what the package and the reference compute of them, and that they are the same. No program is in sight. -/
import Derived.Test.YtlhdalcipflblaaDoorEngA
set_option linter.unusedSimpArgs false
set_option linter.unusedVariables false
namespace Go.Pw1
open Go Go.Eng

structure Sp where
  lo : Int
  hi : Int
  deriving DecidableEq
structure Th where
  lx : Sp
  ly : Sp
  rx : Sp
  ry : Sp
  far : Int
  deriving DecidableEq
structure Pr where
  focal : Sp
  base : Sp
  tilt : Int
  near : Int
  far : Int
  things : List Th

abbrev i64 (n : Int) : Value := .int .i64 n
def Sp.v (s : Sp) : Value := .agg #[.int .i64 s.lo, .int .i64 s.hi]
def Th.cells (t : Th) : List Value := [.int .i64 t.lx.lo, .int .i64 t.lx.hi, .int .i64 t.ly.lo, .int .i64 t.ly.hi, .int .i64 t.rx.lo, .int .i64 t.rx.hi, .int .i64 t.ry.lo, .int .i64 t.ry.hi, .int .i64 t.far]
def Th.v (t : Th) : Value := .agg t.cells.toArray
def Pr.cells (p : Pr) (q : Option Addr) (cap : Nat) : List Value := [.int .i64 p.focal.lo, .int .i64 p.focal.hi, .int .i64 p.base.lo, .int .i64 p.base.hi, .int .i64 p.tilt, .int .i64 p.near, .int .i64 p.far, .slice q p.things.length cap]
def Pr.v (p : Pr) (q : Option Addr) (cap : Nat) : Value := .agg (p.cells q cap).toArray
/-- A view: a pair and its powers. -/
def vwCells (p : Pr) (q : Option Addr) (cap : Nat) (w : Int × Int) : List Value := [.int .i64 p.focal.lo, .int .i64 p.focal.hi, .int .i64 p.base.lo, .int .i64 p.base.hi, .int .i64 p.tilt, .int .i64 p.near, .int .i64 p.far, .slice q p.things.length cap, .int .i64 w.1, .int .i64 w.2]
def b2c (b : Int × Int) : List Value := [.int .i64 b.1, .int .i64 b.2]
def b2v (b : Int × Int) : Value := .agg #[.int .i64 b.1, .int .i64 b.2]

/-- A number below another one, times one. -/
theorem mul_bd {a b A B : Int} (ha : 0 ≤ a) (ha' : a ≤ A) (hb : 0 ≤ b) (hb' : b ≤ B) : 0 ≤ a * b ∧ a * b ≤ A * B :=
  ⟨Int.mul_nonneg ha hb, Int.le_trans (Int.mul_le_mul_of_nonneg_left hb' ha) (Int.mul_le_mul_of_nonneg_right ha' (Int.le_trans hb hb'))⟩

/-! ## The package -/
def within (n lo hi : Int) : Bool := decide (lo ≤ n) && decide (n ≤ hi)
def isSpan (s : Sp) (lo hi : Int) : Bool := decide (lo ≤ s.lo) && decide (s.lo ≤ s.hi) && decide (s.hi ≤ hi)
def isPlace (x y : Sp) : Bool := isSpan x (-4000) 4000 && isSpan y (-4000) 4000
def bad (p : Pr) (t : Th) : Bool := !isPlace t.lx t.ly || !isPlace t.rx t.ry || (!decide (t.far = 0) && !within t.far p.near p.far)
def isPair (p : Pr) : Bool :=
  (isSpan p.focal 1 50000 && isSpan p.base 1 10000 && within p.tilt 0 1000) && within p.near 2000 1073741824 && within p.far p.near 1073741824 && decide ((p.things.length : Int) ≤ 12) && !p.things.any (bad p)

def Sp.Ok (s : Sp) (b : Int) : Prop := -b ≤ s.lo ∧ s.lo ≤ s.hi ∧ s.hi ≤ b
def Th.Ok (t : Th) : Prop := t.lx.Ok 4000 ∧ t.ly.Ok 4000 ∧ t.rx.Ok 4000 ∧ t.ry.Ok 4000
structure Pr.Ok (p : Pr) : Prop where
  f1 : 1 ≤ p.focal.lo
  f2 : p.focal.lo ≤ p.focal.hi
  f3 : p.focal.hi ≤ 50000
  b1 : 1 ≤ p.base.lo
  b2 : p.base.lo ≤ p.base.hi
  b3 : p.base.hi ≤ 10000
  t1 : 0 ≤ p.tilt
  t2 : p.tilt ≤ 1000
  n1 : 2000 ≤ p.near
  n2 : p.near ≤ p.far
  n3 : p.far ≤ 1073741824
  len : p.things.length ≤ 12
  ths : ∀ t ∈ p.things, t.Ok ∧ (t.far = 0 ∨ (p.near ≤ t.far ∧ t.far ≤ p.far))
theorem isPair_ok {p : Pr} (h : isPair p = true) : p.Ok := by
  simp only [isPair, isSpan, within, Bool.and_eq_true, decide_eq_true_eq, Bool.not_eq_true', List.any_eq_false] at h
  obtain ⟨⟨⟨⟨⟨⟨h1, h2⟩, h3⟩, h4⟩, h5⟩, h6⟩, h7⟩ := h
  refine ⟨by omega, by omega, by omega, by omega, by omega, by omega, by omega, by omega, by omega, by omega, by omega, by omega, fun t ht => ?_⟩
  have := h7 t ht
  simp only [bad, isPlace, isSpan, within, Bool.or_eq_true, Bool.not_eq_true', Bool.and_eq_true, decide_eq_true_eq, Bool.and_eq_false_iff, decide_eq_false_iff_not, not_or, Bool.not_eq_false', not_and] at this
  unfold Th.Ok Sp.Ok
  refine ⟨by omega, ?_⟩
  by_cases h0 : t.far = 0
  · exact .inl h0
  · right; omega

def shift (t : Th) : Int × Int := (t.lx.lo - t.rx.hi, t.lx.hi - t.rx.lo)
def nar (a b : Int × Int) : Int × Int := (max a.1 b.1, min a.2 b.2)
def narL (a : Int × Int) (l : List (Int × Int)) : Int × Int := l.foldl nar a
theorem narL_snoc (a : Int × Int) (l : List (Int × Int)) (x : Int × Int) : narL a (l ++ [x]) = nar (narL a l) x := by simp [narL, List.foldl_append]
def isB (a : Int × Int) : Bool := decide (a.1 ≤ a.2)
theorem shift_bd {t : Th} (h : t.Ok) : (-8000 ≤ (shift t).1 ∧ (shift t).1 ≤ 8000) ∧ (-8000 ≤ (shift t).2 ∧ (shift t).2 ≤ 8000) := by
  obtain ⟨⟨h1, h2, h3⟩, ⟨h4, h5, h6⟩, ⟨h7, h8, h9⟩, ⟨h10, h11, h12⟩⟩ := h
  simp only [shift]
  omega
def shownS (t : Th) : Int × Int := nar (shift t) (0, 2000)
def levelS (p : Pr) (t : Th) : Bool := isB (nar (t.ly.lo - t.ry.hi, t.ly.hi - t.ry.lo) (-p.tilt, p.tilt))
def powersS (p : Pr) (t : Th) (s : Int × Int) : Int × Int := if t.far = 0 then (s.1 * p.near, (s.2 + 1) * p.far - 1) else (s.1 * t.far, (s.2 + 1) * t.far - 1)
/-- The powers, of some, with which a thing stands still; and whether there are any. -/
def stillS (p : Pr) (t : Th) (w : Int × Int) : (Int × Int) × Bool :=
  if isB (shownS t) && levelS p t then (nar w (powersS p t (shownS t)), isB (nar w (powersS p t (shownS t)))) else (w, false)

theorem shown_bd {t : Th} (h : isB (shownS t) = true) : 0 ≤ (shownS t).1 ∧ (shownS t).1 ≤ (shownS t).2 ∧ (shownS t).2 ≤ 2000 := by
  simp only [isB, decide_eq_true_eq] at h
  refine ⟨?_, h, ?_⟩
  · simp only [shownS, nar]; omega
  · simp only [shownS, nar]; omega
/-- The index of the first one; -1: there is none. -/
def idxF {α : Type} (f : α → Bool) : List α → Int
  | [] => -1
  | x :: l => if f x then 0 else if idxF f l < 0 then -1 else idxF f l + 1
theorem idxF_ge {α : Type} (f : α → Bool) : ∀ l, -1 ≤ idxF f l
  | [] => by simp [idxF]
  | x :: l => by have := idxF_ge f l; unfold idxF; split <;> (try split) <;> omega
theorem idxF_none {α : Type} (f : α → Bool) : ∀ l, l.any f = false → idxF f l = -1
  | [], _ => rfl
  | x :: l, h => by
    simp only [List.any_cons, Bool.or_eq_false_iff] at h
    have := idxF_none f l h.2
    simp [idxF, h.1, this]
theorem idxF_any {α : Type} (f : α → Bool) : ∀ l, decide (0 ≤ idxF f l) = l.any f
  | [] => by simp [idxF]
  | x :: l => by
    have ih := idxF_any f l
    have := idxF_ge f l
    cases hx : f x
    · simp only [List.any_cons, hx, Bool.false_or, ← ih, idxF]
      by_cases h : idxF f l < 0
      · simp [h, show ¬ 0 ≤ idxF f l by omega]
      · simp [h, show 0 ≤ idxF f l by omega]; omega
    · simp [idxF, hx]
theorem idxF_hit {α : Type} (f : α → Bool) : ∀ (l : List α) (k : Nat) (h : k < l.length), (l.take k).any f = false → f l[k] = true → idxF f l = k
  | [], k, h, _, _ => by simp at h
  | x :: l, 0, _, _, h => by simp at h; simp [idxF, h]
  | x :: l, k + 1, h, h1, h2 => by
    simp only [List.take_succ_cons, List.any_cons, Bool.or_eq_false_iff] at h1
    have ih := idxF_hit f l k (by simpa using h) h1.2 (by simpa using h2)
    simp only [idxF, h1.1, ih]
    simp
    omega
theorem any_snoc {α : Type} {f : α → Bool} {l : List α} {k : Nat} (h : k < l.length) (h1 : (l.take k).any f = false) (h2 : f l[k] = false) : (l.take (k + 1)).any f = false := by
  rw [List.take_succ_eq_append_getElem h, List.any_append, h1]
  simp [h2]

theorem any_hit {α : Type} {f : α → Bool} {l : List α} {k : Nat} (h : k < l.length) (h2 : f l[k] = true) : l.any f = true := List.any_eq_true.2 ⟨_, List.getElem_mem h, h2⟩
def needX (b : Bool) (e : Int) : Except Int Value := if b then .ok (.tuple #[]) else .error e
theorem need_ok {b : Bool} {e : Int} {v : Value} (h : needX b e = .ok v) : b = true ∧ v = .tuple #[] := by
  unfold needX at h; split at h
  · cases h; exact ⟨by assumption, rfl⟩
  · cases h
theorem need_err {b : Bool} {e k : Int} (h : needX b e = .error k) : b = false ∧ k = e := by
  unfold needX at h; split at h
  · cases h
  · cases h; exact ⟨by simp_all, rfl⟩
/-- A pair is opened, with these numbers of things. -/
def openX (p : Pr) (l : List Int) : Except Int Unit :=
  if isPair p then (if l.any (fun n => !within n 0 ((p.things.length : Int) - 1)) then .error 2 else .ok ()) else .error 1
/-- The powers behind some landmarks; none: there is no truth. -/
def lookL (p : Pr) (w : Int × Int) : List Th → Option (Int × Int)
  | [] => some w
  | t :: l => if t.far = 0 then lookL p w l else if (stillS p t w).2 then lookL p (stillS p t w).1 l else none
def lookS (p : Pr) : Option (Int × Int) := lookL p (p.focal.lo * p.base.lo, p.focal.hi * p.base.hi) p.things
def lookX (p : Pr) : Except Int (Int × Int) := match lookS p with | some w => .ok w | none => .error 4
theorem lookL_append (p : Pr) : ∀ (l l2 : List Th) (w : Int × Int), lookL p w (l ++ l2) = match lookL p w l with | some u => lookL p u l2 | none => none
  | [], l2, w => by simp [lookL]
  | t :: l, l2, w => by
    simp only [List.cons_append, lookL]
    split
    · exact lookL_append p l l2 w
    · split
      · exact lookL_append p l l2 _
      · rfl
theorem look_step {p : Pr} {l : List Th} {w u : Int × Int} {k : Nat} (hk : k < l.length) {t : Th} (ht : l[k] = t) (h : lookL p w (l.take k) = some u) : lookL p w (l.take (k + 1)) = lookL p u [t] := by
  subst ht
  rw [List.take_succ_eq_append_getElem hk, lookL_append, h]
theorem look_fail {p : Pr} {l : List Th} {w u : Int × Int} {k : Nat} (hk : k < l.length) {t : Th} (ht : l[k] = t) (h : lookL p w (l.take k) = some u) (h2 : lookL p u [t] = none) : lookL p w l = none := by
  have h3 : lookL p w (l.take (k + 1)) = none := by rw [look_step hk ht h, h2]
  have h4 := lookL_append p (l.take (k + 1)) (l.drop (k + 1)) w
  rw [List.take_append_drop, h3] at h4
  exact h4
theorem openX_ok {p : Pr} {l : List Int} {u : Unit} (h : openX p l = .ok u) : isPair p = true ∧ l.any (fun n => !within n 0 ((p.things.length : Int) - 1)) = false := by
  unfold openX at h
  split at h
  · split at h
    · cases h
    · exact ⟨by assumption, by simp_all⟩
  · cases h
def truthsX (p : Pr) (l : List Int) : Except Int (Int × Int) := match openX p l with | .error k => .error k | .ok _ => lookX p

theorem openX_in {p : Pr} {l : List Int} {u : Unit} (h : openX p l = .ok u) {n : Int} (hn : n ∈ l) : ∃ k : Nat, n = k ∧ k < p.things.length := by
  have h2 := (openX_ok h).2
  have h3 := List.any_eq_false.1 h2 n hn
  simp only [within, Bool.not_eq_true', Bool.and_eq_true, decide_eq_true_eq, Bool.not_eq_false', Bool.not_eq_true, Bool.not_eq_false] at h3
  obtain ⟨k, rfl⟩ := Int.eq_ofNat_of_zero_le (by omega : 0 ≤ n)
  exact ⟨k, rfl, by omega⟩
theorem truthsX_ok {p : Pr} {l : List Int} {w : Int × Int} (h : truthsX p l = .ok w) : openX p l = .ok () ∧ lookS p = some w := by
  unfold truthsX lookX at h
  split at h
  · cases h
  · rename_i u hu
    split at h
    · rename_i w' hw
      cases h
      exact ⟨hu, hw⟩
    · cases h
theorem look_in {p : Pr} : ∀ {l : List Th} {w u : Int × Int}, lookL p w l = some u → w.1 ≤ w.2 → w.1 ≤ u.1 ∧ u.2 ≤ w.2 ∧ u.1 ≤ u.2
  | [], w, u, h, h0 => by cases h; omega
  | t :: l, w, u, h, h0 => by
    simp only [lookL] at h
    split at h
    · exact look_in h h0
    · split at h
      · rename_i hs
        have hst : (stillS p t w).1.1 ≤ (stillS p t w).1.2 ∧ w.1 ≤ (stillS p t w).1.1 ∧ (stillS p t w).1.2 ≤ w.2 := by
          unfold stillS at hs ⊢
          split
          · rename_i hc
            rw [if_pos hc] at hs
            simp only [isB, decide_eq_true_eq] at hs
            refine ⟨hs, ?_, ?_⟩ <;> simp only [nar] <;> omega
          · rename_i hc
            rw [if_neg hc] at hs; cases hs
        have := look_in h hst.1
        omega
      · cases h
theorem look_bd {p : Pr} (hp : p.Ok) {w : Int × Int} (h : lookX p = .ok w) : 1 ≤ w.1 ∧ w.1 ≤ w.2 ∧ w.2 ≤ 500000000 := by
  have f1 := hp.f1
  have f2 := hp.f2
  have f3 := hp.f3
  have b1 := hp.b1
  have b2 := hp.b2
  have b3 := hp.b3
  have m2 := mul_bd (a := p.focal.hi) (b := p.base.hi) (A := 50000) (B := 10000) (by omega) (by omega) (by omega) (by omega)
  have m1 : 1 * 1 ≤ p.focal.lo * p.base.lo := Int.mul_le_mul f1 b1 (by omega) (by omega)
  have m3 : p.focal.lo * p.base.lo ≤ p.focal.hi * p.base.hi := Int.mul_le_mul f2 b2 (by omega) (by omega)
  unfold lookX at h
  split at h
  · rename_i w' hw
    cases h
    have := look_in (show lookL p _ p.things = some w from hw) m3
    simp only at this
    omega
  · cases h
theorem div_rng {a b : Int} (h0 : 0 ≤ a) (h1 : a ≤ 1000000000000) (hb : 0 < b) : -9223372036854775808 ≤ a / b ∧ a / b ≤ 9223372036854775807 := by
  have h2 := Int.ediv_nonneg h0 (Int.le_of_lt hb)
  have h3 := Int.ediv_le_self b h0
  omega
/-- What the functions return. -/
def thingAt (p : Pr) (n : Int) : Th := p.things.getD n.toNat ⟨⟨0, 0⟩, ⟨0, 0⟩, ⟨0, 0⟩, ⟨0, 0⟩, 0⟩
theorem thingAt_eq {p : Pr} {k : Nat} {t : Th} (hk : k < p.things.length) (ht : p.things[k] = t) : thingAt p (k : Int) = t := by simp [thingAt, hk, ht]
def shiftX (p : Pr) (n : Int) : (Int × Int) × Int := match openX p [n] with | .error k => ((0, 0), k) | .ok _ => (shift (thingAt p n), 0)
def nearerS (a b : Th) : Int := if (shift b).2 < (shift a).1 then 2 else if (shift b).1 < (shift a).2 then 1 else 0
def nearerX (p : Pr) (a b : Int) : Int × Int := match openX p [a, b] with | .error k => (0, k) | .ok _ => (nearerS (thingAt p a) (thingAt p b), 0)
def powerX (p : Pr) : (Int × Int) × Int := match truthsX p [] with | .error k => ((0, 0), k) | .ok w => (w, 0)
def standsX (p : Pr) (far : Int) : (Int × Int) × Int :=
  match openX p [] with
  | .error k => ((0, 0), k)
  | .ok _ => if within far p.near p.far then (match lookX p with | .error k => ((0, 0), k) | .ok w => ((w.1 / far, w.2 / far), 0)) else ((0, 0), 2)


/-! ## The reference -/
theorem mul_bd2 {a b A B : Int} (ha : -A ≤ a ∧ a ≤ A) (hb : 0 ≤ b) (hb' : b ≤ B) : -(A * B) ≤ a * b ∧ a * b ≤ A * B := by
  have hA : 0 ≤ A := by omega
  have h1 := Int.mul_le_mul_of_nonneg_right ha.2 hb
  have h2 := Int.mul_le_mul_of_nonneg_right ha.1 hb
  have h3 := Int.mul_le_mul_of_nonneg_left hb' hA
  rw [Int.neg_mul] at h2
  omega
theorem rng_of {a B : Int} (h : 0 ≤ a ∧ a ≤ B) (hB : B ≤ 9223372036854775807) : -9223372036854775808 ≤ a ∧ a ≤ 9223372036854775807 := by omega
theorem rng_sub {a B : Int} (h : 0 ≤ a ∧ a ≤ B) (hB : B ≤ 9223372036854775807) : -9223372036854775808 ≤ a - 1 ∧ a - 1 ≤ 9223372036854775807 := by omega
def levelR (t : Th) (b : Int) : Bool := decide (t.ly.lo ≤ t.ry.hi + b) && decide (t.ry.lo ≤ t.ly.hi + b)
theorem levelR_eq {p : Pr} (hp : p.Ok) {t : Th} (ht : t.Ok) : levelR t p.tilt = levelS p t := by
  obtain ⟨⟨h1, h2, h3⟩, ⟨h4, h5, h6⟩, ⟨h7, h8, h9⟩, ⟨h10, h11, h12⟩⟩ := ht
  have t1 := hp.t1
  rw [Bool.eq_iff_iff]
  simp only [levelR, levelS, isB, nar, Bool.and_eq_true, decide_eq_true_eq, Int.max_le, Int.le_min]
  generalize p.tilt = b at *
  constructor
  · rintro ⟨h, h'⟩; refine ⟨⟨?_, ?_⟩, ?_, ?_⟩ <;> omega
  · rintro ⟨⟨h, h'⟩, h'', h'''⟩; refine ⟨?_, ?_⟩ <;> omega
def powersR (p : Pr) (t : Th) : Int × Int := if isB (shownS t) && levelS p t then powersS p t (shownS t) else (1, 0)
/-- A power of a thing that stands still: its shift can be shown. -/
theorem powersR_isB {p : Pr} {t : Th} {w : Int × Int} (h0 : 1 ≤ w.1) (h : isB (nar w (powersR p t)) = true) : isB (shownS t) = true ∧ levelS p t = true ∧ powersR p t = powersS p t (shownS t) := by
  unfold powersR at h ⊢
  split
  · rename_i h1; rw [Bool.and_eq_true] at h1; exact ⟨h1.1, h1.2, rfl⟩
  · rename_i h1; rw [if_neg h1] at h; have h2 : max w.1 1 ≤ min w.2 0 := of_decide_eq_true h; omega
def allL (p : Pr) (w : Int × Int) : List Th → Int × Int
  | [] => w
  | t :: l => if t.far = 0 then allL p w l else allL p (nar w (powersR p t)) l
theorem allL_append (p : Pr) : ∀ (l l2 : List Th) (w : Int × Int), allL p w (l ++ l2) = allL p (allL p w l) l2
  | [], _, _ => rfl
  | t :: l, l2, w => by simp only [List.cons_append, allL]; split <;> exact allL_append p l l2 _
theorem allL_step {p : Pr} {l : List Th} {w : Int × Int} {k : Nat} (hk : k < l.length) {t : Th} (ht : l[k] = t) : allL p w (l.take (k + 1)) = if t.far = 0 then allL p w (l.take k) else nar (allL p w (l.take k)) (powersR p t) := by
  rw [List.take_succ_eq_append_getElem hk, allL_append, ht]
  simp [allL]
def powers0 (p : Pr) : Int × Int := (p.focal.lo * p.base.lo, p.focal.hi * p.base.hi)
def allS (p : Pr) : Int × Int := allL p (powers0 p) p.things
/-- It only becomes narrower. -/
theorem nar_le (a b : Int × Int) : a.1 ≤ (nar a b).1 ∧ (nar a b).2 ≤ a.2 := by simp only [nar]; omega
theorem allL_le (p : Pr) : ∀ (l : List Th) (w : Int × Int), w.1 ≤ (allL p w l).1 ∧ (allL p w l).2 ≤ w.2
  | [], w => by simp [allL]
  | t :: l, w => by
    simp only [allL]
    split
    · exact allL_le p l w
    · have h1 := allL_le p l (nar w (powersR p t))
      have h2 := nar_le w (powersR p t)
      omega
theorem look_all (p : Pr) : ∀ (l : List Th) (w : Int × Int), w.1 ≤ w.2 → lookL p w l = if isB (allL p w l) then some (allL p w l) else none
  | [], w, h => by simp [lookL, allL, isB, h]
  | t :: l, w, h => by
    simp only [lookL, allL]
    split
    · exact look_all p l w h
    · unfold stillS powersR
      split
      · rename_i hc
        cases hb : isB (nar w (powersS p t (shownS t))) with
        | true => simp only [if_true]; exact look_all p l _ (by simpa [isB] using hb)
        | false =>
          simp only [Bool.false_eq_true, if_false]
          have h1 := allL_le p l (nar w (powersS p t (shownS t)))
          rw [if_neg]
          simp only [isB, decide_eq_false_iff_not, decide_eq_true_eq] at hb ⊢
          omega
      · simp only [Bool.false_eq_true, if_false]
        have h1 := allL_le p l (nar w (1, 0))
        rw [if_neg]
        have h2 : (nar w (1, 0)).1 ≥ 1 ∧ (nar w (1, 0)).2 ≤ 0 := by simp only [nar]; omega
        simp only [isB, decide_eq_true_eq]
        omega
theorem powers0_le {p : Pr} (hp : p.Ok) : (powers0 p).1 ≤ (powers0 p).2 ∧ 1 ≤ (powers0 p).1 ∧ (powers0 p).2 ≤ 500000000 := by
  have f1 := hp.f1
  have f2 := hp.f2
  have f3 := hp.f3
  have b1 := hp.b1
  have b2 := hp.b2
  have b3 := hp.b3
  have m2 := mul_bd (a := p.focal.hi) (b := p.base.hi) (A := 50000) (B := 10000) (by omega) (by omega) (by omega) (by omega)
  have m1 : 1 * 1 ≤ p.focal.lo * p.base.lo := Int.mul_le_mul f1 b1 (by omega) (by omega)
  have m3 : p.focal.lo * p.base.lo ≤ p.focal.hi * p.base.hi := Int.mul_le_mul f2 b2 (by omega) (by omega)
  simp only [powers0]
  omega
theorem lookX_eq {p : Pr} (hp : p.Ok) : lookX p = if isB (allS p) then .ok (allS p) else .error 4 := by
  have h := look_all p p.things (powers0 p) (powers0_le hp).1
  unfold lookX
  rw [show lookS p = lookL p (powers0 p) p.things from rfl, h]
  unfold allS
  split <;> rename_i h2 <;> split at h2 <;> simp_all
def thingR (p : Pr) (n : Int) : Bool := within n 0 ((p.things.length : Int) - 1)
theorem thingR_in {p : Pr} {n : Int} (h : thingR p n = true) : ∃ k : Nat, n = k ∧ k < p.things.length := by
  simp only [thingR, within, Bool.and_eq_true, decide_eq_true_eq] at h
  obtain ⟨k, rfl⟩ := Int.eq_ofNat_of_zero_le h.1
  exact ⟨k, rfl, by omega⟩
/-- open of the reference. -/
def openR (p : Pr) (valid : Bool) : (Int × Int) × Int := if isPair p then (if valid then (if isB (allS p) then (allS p, 0) else ((0, 0), 4)) else ((0, 0), 2)) else ((0, 0), 1)
theorem openR_ok {p : Pr} {v : Bool} (h : (openR p v).2 = 0) : isPair p = true ∧ v = true ∧ isB (allS p) = true ∧ (openR p v).1 = allS p := by
  unfold openR at h ⊢
  split
  · rename_i h1
    rw [if_pos h1] at h
    split
    · rename_i h2
      rw [if_pos h2] at h
      split
      · exact ⟨h1, h2, by assumption, rfl⟩
      · rename_i h3; rw [if_neg h3] at h; simp at h
    · rename_i h2; rw [if_neg h2] at h; simp at h
  · rename_i h1; rw [if_neg h1] at h; simp at h
theorem openR_bd {p : Pr} {v : Bool} {s : (Int × Int) × Int} (hs : openR p v = s) (h0 : s.2 = 0) : isPair p = true ∧ v = true ∧ s.1 = allS p ∧ 1 ≤ s.1.1 ∧ s.1.1 ≤ s.1.2 ∧ s.1.2 ≤ 500000000 := by
  subst hs
  obtain ⟨h1, h2, h3, h4⟩ := openR_ok h0
  have hp := isPair_ok h1
  have hb := powers0_le hp
  have hle := allL_le p p.things (powers0 p)
  rw [show allL p (powers0 p) p.things = allS p from rfl] at hle
  simp only [isB, decide_eq_true_eq] at h3
  rw [h4]
  exact ⟨h1, h2, rfl, by omega, by omega, by omega⟩
def whyR (p : Pr) (n : Int) : Int × Int :=
  let s := openR p (thingR p n)
  if s.2 ≠ 0 then (0, s.2) else
  let t := thingAt p n
  if isB (nar s.1 (powersR p t)) then (0, 0) else if !levelS p t then (1, 0) else if (shift t).2 < 0 then (2, 0) else if 2000 < (shift t).1 ∨ s.1.2 < (shift t).1 * p.near then (3, 0) else (4, 0)
def distR (p : Pr) (n : Int) : (Int × Int) × Int :=
  let s := openR p (thingR p n)
  if s.2 ≠ 0 then ((0, 0), s.2) else
  let t := thingAt p n
  if isB (nar s.1 (powersR p t)) then
    if t.far = 0 then ((max p.near (s.1.1 / ((shownS t).2 + 1) + 1), if 0 < (shownS t).1 then min p.far (s.1.2 / (shownS t).1) else p.far), 0)
    else ((t.far, t.far), 0)
  else ((0, 0), 11)
def shiftR (p : Pr) (n : Int) : (Int × Int) × Int := if isPair p then (if thingR p n then (shift (thingAt p n), 0) else ((0, 0), 2)) else ((0, 0), 1)
def nearerR (p : Pr) (a b : Int) : Int × Int := if isPair p then (if thingR p a && thingR p b then (nearerS (thingAt p a) (thingAt p b), 0) else (0, 2)) else (0, 1)
def powerR (p : Pr) : (Int × Int) × Int := openR p true
def standsR (p : Pr) (far : Int) : (Int × Int) × Int := let s := openR p (within far p.near p.far); if s.2 ≠ 0 then ((0, 0), s.2) else ((s.1.1 / far, s.1.2 / far), 0)
end Go.Pw1
