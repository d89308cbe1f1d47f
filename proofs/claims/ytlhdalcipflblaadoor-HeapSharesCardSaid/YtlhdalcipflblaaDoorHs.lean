/- Layer 10: boxes, entries, pieces, and what the package's functions return, in plain terms. -/
import Derived.Test.YtlhdalcipflblaaDoorHd
import Derived.Test.YtlhdalcipflblaaDoorEngC
import Derived.Test.YtlhdalcipflblaaDoorSpec3
set_option linter.unusedSimpArgs false
set_option linter.unusedVariables false
namespace Go.Hp
open Go Go.Eng Go.Pw1
abbrev Str := List UInt8
structure Bx where
  colour : Int
  titles : List Str
structure Tn where
  colour : Int
  number : Str
  text : Str
structure Mx where
  boxes : List Bx
  cards : List Tn
structure En where
  colour : Int
  number : Str
  title : Str
  deriving DecidableEq
def letterX (c : UInt8) : Bool := decide ((97 : Int) ≤ (c.toNat : Int)) && decide ((c.toNat : Int) ≤ 122)
def digitX (c : UInt8) : Bool := decide ((48 : Int) ≤ (c.toNat : Int)) && decide ((c.toNat : Int) ≤ 57)
def starX (c : UInt8) : Bool := decide ((c.toNat : Int) = 42)
def goodX (c : UInt8) : Bool := letterX c || digitX c || decide ((c.toNat : Int) = 63) || decide ((c.toNat : Int) = 42)
def pieceX (s : Str) : Bool := decide (s.length ≤ 12) && decide (s.countP goodX = s.length) && decide (s.countP starX ≤ 1)
def badTitle (s : Str) : Bool := !within s.length 1 12 || decide (s.countP letterX < s.length)
def badBox (b : Bx) : Bool := !within b.colour 1 9 || b.titles.any badTitle
def badCard (t : Tn) : Bool := !within t.colour 0 9 || !pieceX t.number || !pieceX t.text
def manyX (l : List Bx) : Nat := (l.map fun b => b.titles.length).sum
def mixedX (m : Mx) : Bool := decide (m.boxes.length ≤ 4) && decide (m.cards.length ≤ 8) && !m.boxes.any badBox && decide (manyX m.boxes ≤ 12) && !m.cards.any badCard
/-! ## Pieces -/
def suitsW : Str → Str → Bool
  | [], [] => true
  | a :: w, c :: s => (decide (a.toNat = 63) || decide (a = c)) && suitsW w s
  | _, _ => false
theorem suitsW_len : ∀ {w s : Str}, w.length ≠ s.length → suitsW w s = false
  | [], [], h => absurd rfl h
  | [], _ :: _, _ => rfl
  | _ :: _, [], _ => rfl
  | a :: w, c :: s, h => by
    unfold suitsW
    rw [suitsW_len (fun e => h (by simp [e])), Bool.and_false]
theorem suitsW_iff : ∀ {w s : Str}, suitsW w s = true ↔ w.length = s.length ∧ ∀ k (h : k < w.length) (h2 : k < s.length), w[k].toNat = 63 ∨ w[k] = s[k]
  | [], [] => by simp [suitsW]
  | [], _ :: _ => by simp [suitsW]
  | _ :: _, [] => by simp [suitsW]
  | a :: w, c :: s => by
    unfold suitsW
    rw [Bool.and_eq_true, Bool.or_eq_true, decide_eq_true_eq, decide_eq_true_eq, suitsW_iff]
    constructor
    · rintro ⟨h1, h2, h3⟩
      refine ⟨by simp [h2], fun k h h' => ?_⟩
      cases k with
      | zero => exact h1
      | succ k => exact h3 k (by simpa using h) (by simpa using h')
    · rintro ⟨h1, h2⟩
      refine ⟨h2 0 (by simp) (by simp), by simpa using h1, fun k h h' => ?_⟩
      have := h2 (k + 1) (by simpa using h) (by simpa using h')
      simpa using this
/-- Where the first star is. -/
def starAt : Str → Option Nat
  | [] => none
  | c :: s => if c.toNat = 42 then some 0 else (starAt s).map (· + 1)
def suitsE (h t s : Str) : Bool := decide (h.length + t.length ≤ s.length) && suitsW h (s.take h.length) && suitsW t (s.drop (s.length - t.length))
def suitsX (p s : Str) : Bool := match starAt p with
  | some i => suitsE (p.take i) (p.drop (i + 1)) s
  | none => suitsW p s
/-! ## Entries -/
def digit (n : Nat) : UInt8 := UInt8.ofNat (48 + n)
def itoa (n : Nat) : Str := if n < 10 then [digit n] else [digit (n / 10), digit (n % 10)]
def boxEn (c : Int) (i : Nat) : List Str → List En
  | [] => []
  | t :: l => ⟨c, itoa (i + 1), t⟩ :: boxEn c (i + 1) l
def entriesX (l : List Bx) : List En := l.flatMap fun b => boxEn b.colour 0 b.titles
theorem boxEn_snoc (c : Int) : ∀ (l : List Str) (i : Nat) (t : Str), boxEn c i (l ++ [t]) = boxEn c i l ++ [⟨c, itoa (i + l.length + 1), t⟩]
  | [], i, t => by simp [boxEn]
  | u :: l, i, t => by
    simp only [List.cons_append, boxEn, boxEn_snoc c l (i + 1) t, List.length_cons]
    rw [show i + 1 + l.length + 1 = i + (l.length + 1) + 1 by omega]
theorem boxEn_len (c : Int) : ∀ (l : List Str) (i : Nat), (boxEn c i l).length = l.length
  | [], _ => rfl
  | _ :: l, i => by simp [boxEn, boxEn_len c l]
theorem entries_len : ∀ l : List Bx, (entriesX l).length = manyX l
  | [] => rfl
  | b :: l => by
    have := entries_len l
    simp only [entriesX, List.flatMap_cons, List.length_append, boxEn_len, manyX, List.map_cons, List.sum_cons] at this ⊢
    omega
theorem entries_snoc (l : List Bx) (b : Bx) : entriesX (l ++ [b]) = entriesX l ++ boxEn b.colour 0 b.titles := by simp [entriesX]
/-! ## What a card fits -/
def fitX (t : Tn) (x : En) : Bool := (decide (t.colour = 0) || decide (t.colour = x.colour)) && suitsX t.number x.number && suitsX t.text x.title
def fitsL (t : Tn) : Nat → List En → Nat
  | _, [] => 0
  | i, x :: l => (if fitX t x then 2 ^ i else 0) ||| fitsL t (i + 1) l
def fitsX (m : Mx) (t : Tn) : Nat := fitsL t 0 (entriesX m.boxes)
theorem fitsL_bit (t : Tn) : ∀ (l : List En) (i k : Nat), (fitsL t i l).testBit k = (decide (i ≤ k) && (l[k - i]?.any (fitX t)))
  | [], i, k => by simp [fitsL]
  | x :: l, i, k => by
    unfold fitsL
    rw [Nat.testBit_or, fitsL_bit t l (i + 1) k]
    by_cases h1 : i = k
    · subst h1
      have h2 : ¬ i + 1 ≤ i := by omega
      cases hf : fitX t x <;> simp [h2, hf, Nat.testBit_two_pow]
    · by_cases h2 : i ≤ k
      · have h3 : i + 1 ≤ k := by omega
        have h4 : k - i = (k - (i + 1)) + 1 := by omega
        have h5 : (if fitX t x = true then 2 ^ i else 0).testBit k = false := by
          split
          · rw [Nat.testBit_two_pow]; simp [h1]
          · simp
        simp [h2, h3, h4, h5]
      · have h3 : ¬ i + 1 ≤ k := by omega
        have h5 : (if fitX t x = true then 2 ^ i else 0).testBit k = false := by
          split
          · rw [Nat.testBit_two_pow]; simp [h1]
          · simp
        simp [h2, h3, h5]
theorem fitsL_snoc (t : Tn) : ∀ (l : List En) (i : Nat) (x : En), fitsL t i (l ++ [x]) = fitsL t i l ||| (if fitX t x then 2 ^ (i + l.length) else 0)
  | [], i, x => by simp [fitsL]
  | y :: l, i, x => by
    simp only [List.cons_append, fitsL, fitsL_snoc t l (i + 1) x, List.length_cons]
    rw [show i + 1 + l.length = i + (l.length + 1) by omega, Nat.or_assoc]
theorem fitsL_lt (t : Tn) (l : List En) : ∀ i, fitsL t i l < 2 ^ (i + l.length) := by
  induction l with
  | nil => intro i; exact Nat.two_pow_pos _
  | cons x l ih =>
    intro i
    unfold fitsL
    have h1 := ih (i + 1)
    rw [show i + 1 + l.length = i + (x :: l).length by simp; omega] at h1
    refine Nat.or_lt_two_pow ?_ h1
    split
    · exact Nat.pow_lt_pow_right (by decide) (by simp)
    · exact Nat.two_pow_pos _
theorem fits_bit (m : Mx) (t : Tn) (k : Nat) : (fitsX m t).testBit k = ((entriesX m.boxes)[k]?.any (fitX t)) := by
  unfold fitsX
  rw [fitsL_bit]
  simp
/-! ## The functions -/
def fsX (m : Mx) : List Nat := m.cards.map (fitsX m)
def neX (m : Mx) : Nat := (entriesX m.boxes).length
def cntX (m : Mx) : Nat := cntL (neX m) (fsX m) 0
def cardX (m : Mx) (c : Int) : Bool := within c 0 ((m.cards.length : Int) - 1)
def entryX (m : Mx) (e : Int) : Bool := within e 0 ((neX m : Int) - 1)
def FitsX (m : Mx) (c : Int) : Int × Int := if mixedX m then (if cardX m c then ((((fsX m).getD c.toNat 0 : Nat) : Int), 0) else (0, 2)) else (0, 1)
def CountX (m : Mx) : Int × Int := if mixedX m then ((cntX m : Int), 0) else (0, 1)
def ShareX (m : Mx) (c e : Int) : Int × Int := if mixedX m then (if cardX m c && entryX m e then ((shareL (neX m) (fsX m) c.toNat e.toNat : Int), 0) else (0, 2)) else (0, 1)
def waysE (m : Mx) : Int := if mixedX m then (if cntX m = 0 then 4 else 0) else 1
def FirstX (m : Mx) : List Int × Int := if waysE m = 0 then ((firstL (neX m) (fsX m) 0).map fun (x : Nat) => (x : Int), 0) else ([], waysE m)
/-- The last one that is so. -/
def lastP (p : Nat → Bool) : Nat → Int
  | 0 => -1
  | n + 1 => if p n then (n : Int) else lastP p n
def sureP (m : Mx) (c e : Nat) : Bool := decide (shareL (neX m) (fsX m) c e = cntX m)
def sureC (m : Mx) (c : Nat) : Int := lastP (sureP m c) (neX m)
def SureX (m : Mx) : List Int × Int := if waysE m = 0 then ((List.range m.cards.length).map (sureC m), 0) else ([], waysE m)
def setOf (p : Nat → Bool) : Nat → Nat
  | 0 => 0
  | n + 1 => if p n then setOf p n ||| 2 ^ n else setOf p n
theorem setOf_bit (p : Nat → Bool) : ∀ n k, (setOf p n).testBit k = (decide (k < n) && p k)
  | 0, k => by simp [setOf]
  | n + 1, k => by
    unfold setOf
    have ih := setOf_bit p n k
    by_cases h : p n = true
    · rw [if_pos h, Nat.testBit_or, Nat.testBit_two_pow, ih]
      by_cases hk : n = k
      · subst hk; simp [h]
      · have h2 : (k < n + 1) ↔ k < n := by omega
        simp [hk, h2]
    · rw [if_neg h, ih]
      by_cases hk : k = n
      · subst hk; simp [h]
      · have h2 : (k < n + 1) ↔ k < n := by omega
        simp [h2]
theorem setOf_lt (p : Nat → Bool) : ∀ n, setOf p n < 2 ^ n
  | 0 => by simp [setOf]
  | n + 1 => by
    have ih := setOf_lt p n
    have h2 : 2 ^ n < 2 ^ (n + 1) := Nat.pow_lt_pow_right (by decide) (by omega)
    unfold setOf
    split
    · exact Nat.or_lt_two_pow (by omega) h2
    · omega
def lostX (m : Mx) : Nat := setOf (fun e => decide (usedL (neX m) (fsX m) e = 0)) (neX m)
def canX (m : Mx) : Nat := setOf (fun e => decide (usedL (neX m) (fsX m) e < cntX m)) (neX m)
def LostX (m : Mx) : (Int × Int) × Int := if waysE m = 0 then (((lostX m : Int), (canX m : Int)), 0) else ((0, 0), waysE m)
/-! ### Cards that have too few entries -/
def unionL (s : Nat) : Nat → List Nat → Nat
  | _, [] => 0
  | i, f :: l => (if s.testBit i then f else 0) ||| unionL s (i + 1) l
def shortX (fs : List Nat) (s : Nat) : Bool := decide (pc (unionL s 0 fs) 12 < pc s 12)
def setsL (n : Nat) : List Nat := ((List.range n).map (· + 1)).flatMap fun k => ((List.range (2 ^ n)).filter fun s => decide (0 < s) && decide (pc s 12 = k))
def whyL (fs : List Nat) : Option Nat := (setsL fs.length).find? (shortX fs)
def WhyX (m : Mx) : Int × Int := if mixedX m then (match whyL (fsX m) with | some s => ((s : Int), 11) | none => (0, 0)) else (0, 1)
end Go.Hp
