/- Charts in plain words: what package chart computes. -/
import Derived.Test.YthbiaipagceokaaGreatS01
import Derived.Test.YthbiaipagceokaaGreatProg
set_option linter.unusedSimpArgs false
set_option linter.unusedVariables false
set_option linter.unusedSectionVars false
namespace Go.Ct
open Go Go.Eng Go.Pw1
open Go.Bk (SA)
structure Sg where
  fr : Int
  to : Int
  e : Pw1.Sp
  n : Pw1.Sp
structure Ch where
  st : Int
  sg : List Sg
structure ChA where
  st : Int
  sg : SA Sg
def Sg.cells (s : Sg) : List Value := [.int .i64 s.fr, .int .i64 s.to, .int .i64 s.e.lo, .int .i64 s.e.hi, .int .i64 s.n.lo, .int .i64 s.n.hi]
def Sg.v (s : Sg) : Value := .agg s.cells.toArray
def ChA.pl (c : ChA) : Ch := ⟨c.st, c.sg.l⟩
def ChA.cells (c : ChA) : List Value := [.int .i64 c.st, c.sg.v]
def ChA.v (c : ChA) : Value := .agg c.cells.toArray
def ChA.Ok (c : ChA) (W : World) : Prop := c.sg.ok Sg.cells 6 W
theorem ChA.Ok.mono0 {c : ChA} {W w : World} {news : Blks} (h : c.Ok W) (hm : Mem W [] news w) : c.Ok w := Bk.SA.ok.mono0 h (by decide) hm
/-! ## What is valid -/
def reachS (s : Pw1.Sp) : Bool := isSpan s (-1073741824) 1073741824
def badS (c : Ch) (s : Sg) : Bool := !within s.fr 0 (c.st - 1) || !within s.to 0 (c.st - 1) || decide (s.fr = s.to) || !reachS s.e || !reachS s.n
def chartV (c : Ch) : Bool := within c.st 1 8 && decide ((c.sg.length : Int) ≤ 10) && !c.sg.any (badS c)
structure SgOk (c : Ch) (s : Sg) : Prop where
  f : 0 ≤ s.fr ∧ s.fr < c.st
  t : 0 ≤ s.to ∧ s.to < c.st
  ne : s.fr ≠ s.to
  e : -1073741824 ≤ s.e.lo ∧ s.e.lo ≤ s.e.hi ∧ s.e.hi ≤ 1073741824
  n : -1073741824 ≤ s.n.lo ∧ s.n.lo ≤ s.n.hi ∧ s.n.hi ≤ 1073741824
structure ChOk (c : Ch) : Prop where
  st : 1 ≤ c.st ∧ c.st ≤ 8
  few : c.sg.length ≤ 10
  sg : ∀ s ∈ c.sg, SgOk c s
theorem AE7 {c : Ch} (h : chartV c = true) : ChOk c := by
  simp only [chartV, within, Bool.and_eq_true, decide_eq_true_eq, Bool.not_eq_true', List.any_eq_false] at h
  refine ⟨h.1.1, by omega, fun s hs => ?_⟩
  have h1 := h.2 s hs
  simp only [badS, reachS, isSpan, within, Bool.or_eq_true, Bool.not_eq_true', Bool.and_eq_false_iff, decide_eq_false_iff_not, decide_eq_true_eq, not_or] at h1
  exact ⟨by omega, by omega, by omega, by omega, by omega⟩
theorem Bj9 {c : Ch} (h : ChOk c) : chartV c = true := by
  simp only [chartV, within, Bool.and_eq_true, decide_eq_true_eq, Bool.not_eq_true', List.any_eq_false]
  refine ⟨⟨h.st, by have := h.few; omega⟩, fun s hs => ?_⟩
  have h1 := h.sg s hs
  have h2 := h1.f; have h3 := h1.t; have h4 := h1.ne; have h5 := h1.e; have h6 := h1.n
  simp only [badS, reachS, isSpan, within, Bool.or_eq_true, Bool.not_eq_true', Bool.and_eq_false_iff, decide_eq_false_iff_not, decide_eq_true_eq, not_or]
  omega
/-! ## Sights as they are seen from a station -/
structure Lk where
  s : Nat
  to : Int
  back : Bool
  deriving DecidableEq
def Lk.cells (l : Lk) : List Value := [.int .i64 (l.s : Int), .int .i64 l.to, .bool l.back]
def Lk.v (l : Lk) : Value := .agg l.cells.toArray
/-- The looks of one sight from a station. -/
def lk1 (i : Nat) (s : Sg) (k : Int) : List Lk := (if s.fr = k then [⟨i, s.to, false⟩] else []) ++ (if s.to = k then [⟨i, s.fr, true⟩] else [])
def zSg : Sg := ⟨0, 0, ⟨0, 0⟩, ⟨0, 0⟩⟩
def lksK (l : List Sg) : Nat → Int → List Lk
  | 0, _ => []
  | i + 1, k => lksK l i k ++ lk1 i (l.getD i zSg) k
def lks (c : Ch) (k : Int) : List Lk := lksK c.sg c.sg.length k
def axS (nx : Bool) (s : Sg) : Pw1.Sp := if nx then s.n else s.e
def spanL (c : Ch) (nx : Bool) (l : Lk) : Pw1.Sp :=
  if l.back then ⟨-(axS nx (c.sg.getD l.s zSg)).hi, -(axS nx (c.sg.getD l.s zSg)).lo⟩ else axS nx (c.sg.getD l.s zSg)
/-- A look of a chart. -/
structure LkOk (c : Ch) (l : Lk) : Prop where
  s : l.s < c.sg.length
  to : 0 ≤ l.to ∧ l.to < c.st
theorem Bx9 {c : Ch} (h : ChOk c) (k : Int) : ∀ i, i ≤ c.sg.length → ∀ l ∈ lksK c.sg i k, LkOk c l ∧ l.s < i
  | 0, _, l, hl => by cases hl
  | i + 1, hi, l, hl => by
    rcases List.mem_append.1 hl with hl | hl
    · have := Bx9 h k i (by omega) l hl
      exact ⟨this.1, by omega⟩
    · have hi' : i < c.sg.length := by omega
      have hs : c.sg.getD i zSg = c.sg[i] := by rw [List.getD_eq_getElem?_getD, List.getElem?_eq_getElem hi']; rfl
      have ho := h.sg _ (List.getElem_mem hi')
      rw [hs] at hl
      rcases List.mem_append.1 hl with hl | hl
      · split at hl
        · rw [List.mem_singleton.1 hl]; exact ⟨⟨hi', ho.t⟩, by show i < i + 1; omega⟩
        · cases hl
      · split at hl
        · rw [List.mem_singleton.1 hl]; exact ⟨⟨hi', ho.f⟩, by show i < i + 1; omega⟩
        · cases hl
theorem Bx7 {c : Ch} (h : ChOk c) {k : Int} {l : Lk} (hl : l ∈ lks c k) : LkOk c l := (Bx9 h k _ (Nat.le_refl _) l hl).1
theorem AD5 (l : List Sg) (k : Int) : ∀ i, (lksK l i k).length ≤ 2 * i
  | 0 => Nat.le_refl _
  | i + 1 => by
    have h := AD5 l k i
    show (lksK l i k ++ lk1 i (l.getD i zSg) k).length ≤ _
    have : (lk1 i (l.getD i zSg) k).length ≤ 2 := by unfold lk1; split <;> split <;> simp
    rw [List.length_append]; omega
theorem AC7 {c : Ch} (h : ChOk c) (nx : Bool) {l : Lk} (hl : LkOk c l) : -1073741824 ≤ (spanL c nx l).lo ∧ (spanL c nx l).lo ≤ (spanL c nx l).hi ∧ (spanL c nx l).hi ≤ 1073741824 := by
  have hs : c.sg.getD l.s zSg = c.sg[l.s]'hl.s := by rw [List.getD_eq_getElem?_getD, List.getElem?_eq_getElem hl.s]; rfl
  have ho := h.sg _ (List.getElem_mem hl.s)
  have he := ho.e; have hn := ho.n
  unfold spanL axS
  rw [hs]
  cases l.back <;> cases nx <;> simp <;> omega
/-! ## How much greater other stations can be -/
abbrev Im := List (Int × Int)
def iFind : Im → Int → Option Int
  | [], _ => none
  | x :: l, a => if x.1 = a then some x.2 else iFind l a
def iSet : Im → Int → Int → Im
  | [], a, v => [(a, v)]
  | x :: l, a, v => if x.1 = a then (a, v) :: l else x :: iSet l a v
theorem AE0 (a b v : Int) : ∀ l : Im, iFind (iSet l a v) b = if a = b then some v else iFind l b
  | [] => rfl
  | x :: l => by
    unfold iSet
    by_cases h : x.1 = a
    · rw [if_pos h]
      show (if a = b then some v else iFind l b) = if a = b then some v else (if x.1 = b then some x.2 else iFind l b)
      by_cases h2 : a = b
      · rw [if_pos h2, if_pos h2]
      · rw [if_neg h2, if_neg h2, if_neg (by rw [h]; exact h2)]
    · rw [if_neg h]
      show (if x.1 = b then some x.2 else iFind (iSet l a v) b) = if a = b then some v else (if x.1 = b then some x.2 else iFind l b)
      rw [AE0 a b v l]
      by_cases h2 : x.1 = b
      · rw [if_pos h2, if_pos h2, if_neg (fun e => h (by rw [h2, e]))]
      · rw [if_neg h2, if_neg h2]
def iv (l : Im) : List (Int × Value) := l.map fun p => (p.1, .int .i64 p.2)
theorem BN7 (a : Int) : ∀ l : Im, (mIdx (iv l) a).map (·.2) = (iFind l a).map (Value.int .i64)
  | [] => rfl
  | x :: l => by
    show Option.map _ (if x.1 = a then _ else _) = _
    unfold iFind
    by_cases h : x.1 = a
    · rw [if_pos h, if_pos h]; rfl
    · rw [if_neg h, if_neg h, ← BN7 a l]
      show Option.map _ (Option.map _ (mIdx (iv l) a)) = _
      cases mIdx (iv l) a <;> rfl
theorem By5 (l : Im) (a : Int) : mFind (iv l) a = (iFind l a).map (Value.int .i64) := BN7 a l
theorem Bk4 (a v : Int) : ∀ l : Im, mSet (iv l) a (.int .i64 v) = iv (iSet l a v)
  | [] => rfl
  | x :: l => by
    show (if x.1 = a then _ else _) = _
    unfold iSet
    by_cases h : x.1 = a
    · rw [if_pos h, if_pos h]; rfl
    · rw [if_neg h, if_neg h, show mSet (List.map (fun p : Int × Int => (p.1, Value.int .i64 p.2)) l) a (.int .i64 v) = _ from Bk4 a v l]; rfl
def putX (m : Im) (k v : Int) : Im := match iFind m k with
  | none => iSet m k v
  | some o => if v < o then iSet m k v else m
def stepX (c : Ch) (nx : Bool) (out : Nat) (n : Int) (m : Im) (l : Lk) : Im := if out.testBit l.s then m else putX m l.to (n + (spanL c nx l).hi)
def atX (c : Ch) (nx : Bool) (out : Nat) (m : Im) (k : Nat) : Im := match iFind m (k : Int) with
  | none => m
  | some n => (lks c (k : Int)).foldl (stepX c nx out n) m
def atsX (c : Ch) (nx : Bool) (out : Nat) (m : Im) (n : Nat) : Im := (List.range n).foldl (atX c nx out) m
def rndsX (c : Ch) (nx : Bool) (out : Nat) (m : Im) : Nat → Im
  | 0 => m
  | n + 1 => atsX c nx out (rndsX c nx out m n) c.st.toNat
def boundsX (c : Ch) (fr : Int) (nx : Bool) (out : Nat) : Im := rndsX c nx out [(fr, 0)] c.st.toNat
/-- No bound is beyond a number. -/
def Bnd (m : Im) (b : Int) : Prop := ∀ k v, iFind m k = some v → -b ≤ v ∧ v ≤ b
theorem Bnd.mono {m : Im} {b b' : Int} (h : Bnd m b) (hb : b ≤ b') : Bnd m b' := fun k v hv => by have := h k v hv; omega
theorem Bnd.put {m : Im} {b : Int} (h : Bnd m b) {k v : Int} (hv : -b ≤ v ∧ v ≤ b) : Bnd (putX m k v) b := by
  have hs : Bnd (iSet m k v) b := fun k' v' hv' => by
    rw [AE0] at hv'
    split at hv'
    · cases hv'; exact hv
    · exact h k' v' hv'
  unfold putX
  split
  · exact hs
  · split
    · exact hs
    · exact h
theorem Bnd.step {c : Ch} (hc : ChOk c) {m : Im} {b n : Int} (h : Bnd m b) (nx : Bool) (out : Nat) (hn : -b ≤ n + 1073741824 ∧ n + 1073741824 ≤ b ∧ -b ≤ n - 1073741824) {l : Lk} (hl : LkOk c l) : Bnd (stepX c nx out n m l) b := by
  have := AC7 hc nx hl
  unfold stepX
  split
  · exact h
  · exact h.put (by omega)
theorem Bnd.steps {c : Ch} (hc : ChOk c) {b n : Int} (nx : Bool) (out : Nat) (hn : -b ≤ n + 1073741824 ∧ n + 1073741824 ≤ b ∧ -b ≤ n - 1073741824) : ∀ (ls : List Lk) (m : Im), (∀ l ∈ ls, LkOk c l) → Bnd m b → Bnd (ls.foldl (stepX c nx out n) m) b
  | [], m, _, h => h
  | l :: ls, m, hls, h => Bnd.steps hc nx out hn ls _ (fun x hx => hls x (List.mem_cons_of_mem _ hx)) (h.step hc nx out hn (hls l (List.mem_cons_self ..)))
theorem Bnd.at {c : Ch} (hc : ChOk c) {m : Im} {b : Int} (h : Bnd m b) (nx : Bool) (out : Nat) (k : Nat) : Bnd (atX c nx out m k) (b + 1073741824) := by
  unfold atX
  split
  · exact h.mono (by omega)
  · rename_i n hn
    have := h _ _ hn
    exact Bnd.steps hc nx out (by omega) _ _ (fun l hl => Bx7 hc hl) (h.mono (by omega))
theorem Bnd.ats {c : Ch} (hc : ChOk c) {m : Im} {b : Int} (h : Bnd m b) (nx : Bool) (out : Nat) : ∀ n : Nat, Bnd (atsX c nx out m n) (b + 1073741824 * n)
  | 0 => h.mono (by omega)
  | n + 1 => by
    unfold atsX
    rw [List.range_succ, List.foldl_append]
    exact ((Bnd.ats hc h nx out n).at hc nx out n).mono (by omega)
theorem Bnd.rnds {c : Ch} (hc : ChOk c) {m : Im} {b : Int} (h : Bnd m b) (nx : Bool) (out : Nat) : ∀ n : Nat, Bnd (rndsX c nx out m n) (b + 8589934592 * n)
  | 0 => h.mono (by omega)
  | n + 1 => by
    have h8 := hc.st
    exact ((Bnd.rnds hc h nx out n).ats hc nx out c.st.toNat).mono (by omega)
theorem Bnd.one (k : Int) : Bnd [(k, 0)] 0 := fun k' v hv => by
  unfold iFind at hv
  split at hv
  · cases hv; omega
  · cases hv
end Go.Ct
namespace Go.Proofs.YthbiaipagceokaaGreat
open Go Go.Eng
theorem BL6 : apB Tryz.prog 40 = some (3, 1, 8) := by kernel_rfl
theorem AF1 : arr1B Tryz.prog 223 = some 5 := by kernel_rfl
theorem Ag6 : arrB Tryz.prog 135 = some (4, 1) := by kernel_rfl
theorem Aj5 : arrB Tryz.prog 69 = some (2, 1) := by kernel_rfl
theorem BW6 : Enters Tryz.prog 100 := Aa6 Tryz.func100 (by kernel_rfl) rfl
theorem BC3 : Enters Tryz.prog 113 := Aa6 Tryz.func113 (by kernel_rfl) rfl
theorem BW1 : Enters Tryz.prog 116 := Aa6 Tryz.func116 (by kernel_rfl) rfl
theorem BW0 : Enters Tryz.prog 117 := Aa6 Tryz.func117 (by kernel_rfl) rfl
theorem BV9 : Enters Tryz.prog 118 := Aa6 Tryz.func118 (by kernel_rfl) rfl
theorem BV8 : Enters Tryz.prog 119 := Aa6 Tryz.func119 (by kernel_rfl) rfl
theorem BV7 : Enters Tryz.prog 120 := Aa6 Tryz.func120 (by kernel_rfl) rfl
theorem BV6 : Enters Tryz.prog 121 := Aa6 Tryz.func121 (by kernel_rfl) rfl
theorem BV5 : Enters Tryz.prog 122 := Aa6 Tryz.func122 (by kernel_rfl) rfl
theorem BV4 : Enters Tryz.prog 123 := Aa6 Tryz.func123 (by kernel_rfl) rfl
theorem BV3 : Enters Tryz.prog 124 := Aa6 Tryz.func124 (by kernel_rfl) rfl
theorem BV2 : Enters Tryz.prog 125 := Aa6 Tryz.func125 (by kernel_rfl) rfl
theorem BV1 : Enters Tryz.prog 126 := Aa6 Tryz.func126 (by kernel_rfl) rfl
theorem BV0 : Enters Tryz.prog 127 := Aa6 Tryz.func127 (by kernel_rfl) rfl
theorem BU9 : Enters Tryz.prog 128 := Aa6 Tryz.func128 (by kernel_rfl) rfl
theorem BU8 : Enters Tryz.prog 129 := Aa6 Tryz.func129 (by kernel_rfl) rfl
theorem BU7 : Enters Tryz.prog 130 := Aa6 Tryz.func130 (by kernel_rfl) rfl
theorem Bg0 : Enters Tryz.prog 131 := Aa6 Tryz.func131 (by kernel_rfl) rfl
theorem Bf9 : Enters Tryz.prog 132 := Aa6 Tryz.func132 (by kernel_rfl) rfl
theorem BP9 : Enters Tryz.prog 15 := Aa6 Tryz.func15 (by kernel_rfl) rfl
theorem BU6 : Enters Tryz.prog 157 := Aa6 Tryz.func157 (by kernel_rfl) rfl
theorem BU5 : Enters Tryz.prog 158 := Aa6 Tryz.func158 (by kernel_rfl) rfl
theorem BU4 : Enters Tryz.prog 159 := Aa6 Tryz.func159 (by kernel_rfl) rfl
theorem Bm0 : Enters Tryz.prog 16 := Aa6 Tryz.func16 (by kernel_rfl) rfl
theorem BU3 : Enters Tryz.prog 160 := Aa6 Tryz.func160 (by kernel_rfl) rfl
theorem BU2 : Enters Tryz.prog 161 := Aa6 Tryz.func161 (by kernel_rfl) rfl
theorem BU1 : Enters Tryz.prog 162 := Aa6 Tryz.func162 (by kernel_rfl) rfl
theorem BU0 : Enters Tryz.prog 163 := Aa6 Tryz.func163 (by kernel_rfl) rfl
theorem Bl9 : Enters Tryz.prog 17 := Aa6 Tryz.func17 (by kernel_rfl) rfl
theorem Ak9 : Enters Tryz.prog 21 := Aa6 Tryz.func21 (by kernel_rfl) rfl
theorem BC2 : Enters Tryz.prog 22 := Aa6 Tryz.func22 (by kernel_rfl) rfl
theorem AQ4 : Enters Tryz.prog 23 := Aa6 Tryz.func23 (by kernel_rfl) rfl
theorem Ba7 : Enters Tryz.prog 24 := Aa6 Tryz.func24 (by kernel_rfl) rfl
theorem BC1 : Enters Tryz.prog 25 := Aa6 Tryz.func25 (by kernel_rfl) rfl
theorem Av6 : Enters Tryz.prog 26 := Aa6 Tryz.func26 (by kernel_rfl) rfl
theorem BC0 : Enters Tryz.prog 27 := Aa6 Tryz.func27 (by kernel_rfl) rfl
theorem Bl3 : Enters Tryz.prog 35 := Aa6 Tryz.func35 (by kernel_rfl) rfl
theorem Ak8 : Enters Tryz.prog 36 := Aa6 Tryz.func36 (by kernel_rfl) rfl
theorem BP6 : Enters Tryz.prog 41 := Aa6 Tryz.func41 (by kernel_rfl) rfl
theorem BB6 : Enters Tryz.prog 42 := Aa6 Tryz.func42 (by kernel_rfl) rfl
theorem BP5 : Enters Tryz.prog 43 := Aa6 Tryz.func43 (by kernel_rfl) rfl
theorem Cc3 : Enters Tryz.prog 57 := Aa6 Tryz.func57 (by kernel_rfl) rfl
theorem AQ3 : Enters Tryz.prog 58 := Aa6 Tryz.func58 (by kernel_rfl) rfl
theorem Bl0 : Enters Tryz.prog 59 := Aa6 Tryz.func59 (by kernel_rfl) rfl
theorem Cc2 : Enters Tryz.prog 60 := Aa6 Tryz.func60 (by kernel_rfl) rfl
theorem Cc1 : Enters Tryz.prog 61 := Aa6 Tryz.func61 (by kernel_rfl) rfl
theorem BP2 : Enters Tryz.prog 62 := Aa6 Tryz.func62 (by kernel_rfl) rfl
theorem BP1 : Enters Tryz.prog 63 := Aa6 Tryz.func63 (by kernel_rfl) rfl
theorem Cc0 : Enters Tryz.prog 64 := Aa6 Tryz.func64 (by kernel_rfl) rfl
theorem Cb9 : Enters Tryz.prog 65 := Aa6 Tryz.func65 (by kernel_rfl) rfl
theorem Cb8 : Enters Tryz.prog 66 := Aa6 Tryz.func66 (by kernel_rfl) rfl
theorem Cb7 : Enters Tryz.prog 67 := Aa6 Tryz.func67 (by kernel_rfl) rfl
theorem Cb6 : Enters Tryz.prog 68 := Aa6 Tryz.func68 (by kernel_rfl) rfl
theorem BP0 : Enters Tryz.prog 69 := Aa6 Tryz.func69 (by kernel_rfl) rfl
theorem BO9 : Enters Tryz.prog 70 := Aa6 Tryz.func70 (by kernel_rfl) rfl
theorem Ca9 : Enters Tryz.prog 83 := Aa6 Tryz.func83 (by kernel_rfl) rfl
theorem BO2 : Enters Tryz.prog 86 := Aa6 Tryz.func86 (by kernel_rfl) rfl
theorem Bk9 : Enters Tryz.prog 87 := Aa6 Tryz.func87 (by kernel_rfl) rfl
theorem Ca8 : Enters Tryz.prog 88 := Aa6 Tryz.func88 (by kernel_rfl) rfl
theorem Ca7 : Enters Tryz.prog 89 := Aa6 Tryz.func89 (by kernel_rfl) rfl
theorem BO1 : Enters Tryz.prog 90 := Aa6 Tryz.func90 (by kernel_rfl) rfl
theorem BB1 : Enters Tryz.prog 91 := Aa6 Tryz.func91 (by kernel_rfl) rfl
theorem BO0 : Enters Tryz.prog 92 := Aa6 Tryz.func92 (by kernel_rfl) rfl
theorem Ba6 : Enters Tryz.prog 93 := Aa6 Tryz.func93 (by kernel_rfl) rfl
theorem BB0 : Enters Tryz.prog 94 := Aa6 Tryz.func94 (by kernel_rfl) rfl
theorem Ca6 : Enters Tryz.prog 95 := Aa6 Tryz.func95 (by kernel_rfl) rfl
theorem Ca5 : Enters Tryz.prog 96 := Aa6 Tryz.func96 (by kernel_rfl) rfl
theorem Ca4 : Enters Tryz.prog 97 := Aa6 Tryz.func97 (by kernel_rfl) rfl
theorem Ca3 : Enters Tryz.prog 98 := Aa6 Tryz.func98 (by kernel_rfl) rfl
theorem BN9 : Enters Tryz.prog 99 := Aa6 Tryz.func99 (by kernel_rfl) rfl
theorem BT7 : aggB Tryz.prog 172 = true := by kernel_rfl
theorem Av0 : field1B Tryz.prog 23 0 = some 0 := by kernel_rfl
theorem AB5 : field1B Tryz.prog 23 1 = some 1 := by kernel_rfl
theorem BA6 : fieldB Tryz.prog 101 0 = some 0 := by kernel_rfl
instance : Fld Tryz.prog 101 0 0 := ⟨BA6⟩
theorem BA5 : fieldB Tryz.prog 101 1 = some 1 := by kernel_rfl
instance : Fld Tryz.prog 101 1 1 := ⟨BA5⟩
theorem BA4 : fieldB Tryz.prog 101 2 = some 2 := by kernel_rfl
instance : Fld Tryz.prog 101 2 2 := ⟨BA4⟩
theorem BA3 : fieldB Tryz.prog 101 3 = some 3 := by kernel_rfl
instance : Fld Tryz.prog 101 3 3 := ⟨BA3⟩
theorem BA2 : fieldB Tryz.prog 106 0 = some 0 := by kernel_rfl
instance : Fld Tryz.prog 106 0 0 := ⟨BA2⟩
theorem Bz9 : fieldB Tryz.prog 143 0 = some 0 := by kernel_rfl
instance : Fld Tryz.prog 143 0 0 := ⟨Bz9⟩
theorem AM5 : fieldB Tryz.prog 143 1 = some 1 := by kernel_rfl
instance : Fld Tryz.prog 143 1 1 := ⟨AM5⟩
theorem Bz8 : fieldB Tryz.prog 146 0 = some 0 := by kernel_rfl
instance : Fld Tryz.prog 146 0 0 := ⟨Bz8⟩
theorem Bz7 : fieldB Tryz.prog 148 0 = some 0 := by kernel_rfl
instance : Fld Tryz.prog 148 0 0 := ⟨Bz7⟩
theorem Bz6 : fieldB Tryz.prog 148 1 = some 1 := by kernel_rfl
instance : Fld Tryz.prog 148 1 1 := ⟨Bz6⟩
theorem As5 : fieldB Tryz.prog 169 0 = some 0 := by kernel_rfl
instance : Fld Tryz.prog 169 0 0 := ⟨As5⟩
theorem Bz5 : fieldB Tryz.prog 169 1 = some 17 := by kernel_rfl
instance : Fld Tryz.prog 169 1 17 := ⟨Bz5⟩
theorem Bz4 : fieldB Tryz.prog 172 0 = some 0 := by kernel_rfl
instance : Fld Tryz.prog 172 0 0 := ⟨Bz4⟩
theorem Bz3 : fieldB Tryz.prog 172 1 = some 1 := by kernel_rfl
instance : Fld Tryz.prog 172 1 1 := ⟨Bz3⟩
theorem Bz2 : fieldB Tryz.prog 179 0 = some 0 := by kernel_rfl
instance : Fld Tryz.prog 179 0 0 := ⟨Bz2⟩
theorem Bz1 : fieldB Tryz.prog 179 1 = some 1 := by kernel_rfl
instance : Fld Tryz.prog 179 1 1 := ⟨Bz1⟩
theorem Aj3 : fieldB Tryz.prog 23 0 = some 0 := by kernel_rfl
instance : Fld Tryz.prog 23 0 0 := ⟨Aj3⟩
theorem Ah5 : fieldB Tryz.prog 23 1 = some 1 := by kernel_rfl
instance : Fld Tryz.prog 23 1 1 := ⟨Ah5⟩
theorem AU1 : fieldB Tryz.prog 26 0 = some 0 := by kernel_rfl
instance : Fld Tryz.prog 26 0 0 := ⟨AU1⟩
theorem AU0 : fieldB Tryz.prog 26 1 = some 2 := by kernel_rfl
instance : Fld Tryz.prog 26 1 2 := ⟨AU0⟩
theorem BK5 : fieldB Tryz.prog 26 2 = some 4 := by kernel_rfl
instance : Fld Tryz.prog 26 2 4 := ⟨BK5⟩
theorem Bk6 : fieldB Tryz.prog 26 3 = some 5 := by kernel_rfl
instance : Fld Tryz.prog 26 3 5 := ⟨Bk6⟩
theorem Bk5 : fieldB Tryz.prog 26 4 = some 6 := by kernel_rfl
instance : Fld Tryz.prog 26 4 6 := ⟨Bk5⟩
theorem Ar0 : fieldB Tryz.prog 26 5 = some 7 := by kernel_rfl
instance : Fld Tryz.prog 26 5 7 := ⟨Ar0⟩
theorem BK4 : fieldB Tryz.prog 34 0 = some 0 := by kernel_rfl
instance : Fld Tryz.prog 34 0 0 := ⟨BK4⟩
theorem BK3 : fieldB Tryz.prog 34 1 = some 2 := by kernel_rfl
instance : Fld Tryz.prog 34 1 2 := ⟨BK3⟩
theorem BK2 : fieldB Tryz.prog 36 0 = some 0 := by kernel_rfl
instance : Fld Tryz.prog 36 0 0 := ⟨BK2⟩
theorem BK1 : fieldB Tryz.prog 36 1 = some 4 := by kernel_rfl
instance : Fld Tryz.prog 36 1 4 := ⟨BK1⟩
theorem AI5 : fieldB Tryz.prog 36 2 = some 8 := by kernel_rfl
instance : Fld Tryz.prog 36 2 8 := ⟨AI5⟩
theorem BJ8 : fieldB Tryz.prog 63 0 = some 0 := by kernel_rfl
instance : Fld Tryz.prog 63 0 0 := ⟨BJ8⟩
theorem BJ7 : fieldB Tryz.prog 63 1 = some 8 := by kernel_rfl
instance : Fld Tryz.prog 63 1 8 := ⟨BJ7⟩
theorem BJ6 : fieldB Tryz.prog 63 2 = some 9 := by kernel_rfl
instance : Fld Tryz.prog 63 2 9 := ⟨BJ6⟩
theorem Ay6 : fieldB Tryz.prog 63 3 = some 10 := by kernel_rfl
instance : Fld Tryz.prog 63 3 10 := ⟨Ay6⟩
theorem AI4 : fieldB Tryz.prog 63 4 = some 11 := by kernel_rfl
instance : Fld Tryz.prog 63 4 11 := ⟨AI4⟩
theorem BJ5 : fieldB Tryz.prog 63 5 = some 13 := by kernel_rfl
instance : Fld Tryz.prog 63 5 13 := ⟨BJ5⟩
theorem BJ4 : fieldB Tryz.prog 63 6 = some 14 := by kernel_rfl
instance : Fld Tryz.prog 63 6 14 := ⟨BJ4⟩
theorem BJ3 : fieldB Tryz.prog 63 7 = some 15 := by kernel_rfl
instance : Fld Tryz.prog 63 7 15 := ⟨BJ3⟩
theorem BJ2 : fieldB Tryz.prog 63 8 = some 16 := by kernel_rfl
instance : Fld Tryz.prog 63 8 16 := ⟨BJ2⟩
theorem Au7 : fieldB Tryz.prog 71 0 = some 0 := by kernel_rfl
instance : Fld Tryz.prog 71 0 0 := ⟨Au7⟩
theorem BJ1 : fieldB Tryz.prog 71 1 = some 8 := by kernel_rfl
instance : Fld Tryz.prog 71 1 8 := ⟨BJ1⟩
theorem Al3 : Tryz.prog.follows .mixedOrders = true := by kernel_rfl
theorem Ca1 (a0 : Int) (a1 : Int) (a2 : Int) (a3 : Int) (a4 : Int) (c0 : Int) (c1 : Int) (c2 : Int) (c3 : Int) (c4 : Int) : eqF Tryz.prog 8 172 [.int .i64 a0, .int .i64 a1, .int .i64 a2, .int .i64 a3, .int .i64 a4] [.int .i64 c0, .int .i64 c1, .int .i64 c2, .int .i64 c3, .int .i64 c4] = some (decide (a0 = c0) && ((decide (a1 = c1) && (decide (a2 = c2) && (decide (a3 = c3) && (decide (a4 = c4) && true)))) && true)) := by kernel_rfl
theorem Au3 : mapB Tryz.prog 167 = some 143 := by kernel_rfl
theorem An3 (v : Value) (w : World) : (method (Tryz.prog.types.size + Made.depth) 146 v "pairworks/pair.powers").run Tryz.prog w = .ok (157, v) w := by kernel_rfl
theorem An2 (v : Value) (w : World) : (method (Tryz.prog.types.size + Made.depth) 148 v "pairworks/pair.powers").run Tryz.prog w = .ok (158, v) w := by kernel_rfl
theorem An1 (v : Value) (w : World) : (method (Tryz.prog.types.size + Made.depth) 216 v "pairworks/mount.hurts").run Tryz.prog w = .ok (159, v) w := by kernel_rfl
theorem An0 (v : Value) (w : World) : (method (Tryz.prog.types.size + Made.depth) 217 v "pairworks/mount.hurts").run Tryz.prog w = .ok (160, v) w := by kernel_rfl
theorem Am9 (v : Value) (w : World) : (method (Tryz.prog.types.size + Made.depth) 218 v "pairworks/mount.hurts").run Tryz.prog w = .ok (161, v) w := by kernel_rfl
theorem Am8 (v : Value) (w : World) : (method (Tryz.prog.types.size + Made.depth) 219 v "pairworks/mount.hurts").run Tryz.prog w = .ok (162, v) w := by kernel_rfl
theorem Am7 (v : Value) (w : World) : (method (Tryz.prog.types.size + Made.depth) 220 v "pairworks/mount.hurts").run Tryz.prog w = .ok (163, v) w := by kernel_rfl
theorem Ao3 (v : Value) (w : World) : (nilAhead (Tryz.prog.types.size + Made.depth) 216 v "pairworks/mount.hurts").run Tryz.prog w = .ok (some false) w := by kernel_rfl
theorem Ao2 (v : Value) (w : World) : (nilAhead (Tryz.prog.types.size + Made.depth) 217 v "pairworks/mount.hurts").run Tryz.prog w = .ok (some false) w := by kernel_rfl
theorem Ao1 (v : Value) (w : World) : (nilAhead (Tryz.prog.types.size + Made.depth) 218 v "pairworks/mount.hurts").run Tryz.prog w = .ok (some false) w := by kernel_rfl
theorem Ao0 (v : Value) (w : World) : (nilAhead (Tryz.prog.types.size + Made.depth) 219 v "pairworks/mount.hurts").run Tryz.prog w = .ok (some false) w := by kernel_rfl
theorem An9 (v : Value) (w : World) : (nilAhead (Tryz.prog.types.size + Made.depth) 220 v "pairworks/mount.hurts").run Tryz.prog w = .ok (some false) w := by kernel_rfl
theorem Bk2 : (Tryz.prog.underlying 106).any (fun t => match t with | .interface _ => false | _ => true) = true := by kernel_rfl
theorem BI4 : (Tryz.prog.underlying 146).any (fun t => match t with | .interface _ => false | _ => true) = true := by kernel_rfl
theorem BI3 : (Tryz.prog.underlying 148).any (fun t => match t with | .interface _ => false | _ => true) = true := by kernel_rfl
theorem BI2 : (Tryz.prog.underlying 216).any (fun t => match t with | .interface _ => false | _ => true) = true := by kernel_rfl
theorem BI1 : (Tryz.prog.underlying 217).any (fun t => match t with | .interface _ => false | _ => true) = true := by kernel_rfl
theorem BI0 : (Tryz.prog.underlying 218).any (fun t => match t with | .interface _ => false | _ => true) = true := by kernel_rfl
theorem BH9 : (Tryz.prog.underlying 219).any (fun t => match t with | .interface _ => false | _ => true) = true := by kernel_rfl
theorem BH8 : (Tryz.prog.underlying 220).any (fun t => match t with | .interface _ => false | _ => true) = true := by kernel_rfl
theorem Ay0 : placesB Tryz.prog 101 = some [(0, 1), (1, 1), (2, 1), (3, 1)] := by kernel_rfl
theorem Bp5 : placesB Tryz.prog 106 = some [(0, 1)] := by kernel_rfl
theorem AP4 : placesB Tryz.prog 135 = some [(0, 1), (1, 1), (2, 1), (3, 1)] := by kernel_rfl
theorem Ak7 : placesB Tryz.prog 143 = some [(0, 1), (1, 1)] := by kernel_rfl
theorem Bp3 : placesB Tryz.prog 146 = some [(0, 1)] := by kernel_rfl
theorem Bp2 : placesB Tryz.prog 148 = some [(0, 1), (1, 1)] := by kernel_rfl
theorem Bp1 : placesB Tryz.prog 169 = some [(0, 17), (17, 1)] := by kernel_rfl
theorem Bp0 : placesB Tryz.prog 172 = some [(0, 1), (1, 4)] := by kernel_rfl
theorem AG0 : placesB Tryz.prog 179 = some [(0, 1), (1, 4)] := by kernel_rfl
theorem Bo9 : placesB Tryz.prog 216 = some [] := by kernel_rfl
theorem Bo8 : placesB Tryz.prog 217 = some [] := by kernel_rfl
theorem Bo7 : placesB Tryz.prog 218 = some [] := by kernel_rfl
theorem Bo6 : placesB Tryz.prog 219 = some [] := by kernel_rfl
theorem Bo5 : placesB Tryz.prog 220 = some [] := by kernel_rfl
theorem Bo4 : placesB Tryz.prog 223 = some [(0, 1), (1, 1), (2, 1), (3, 1), (4, 1)] := by kernel_rfl
theorem Ah7 : placesB Tryz.prog 23 = some [(0, 1), (1, 1)] := by kernel_rfl
theorem Ai3 : placesB Tryz.prog 69 = some [(0, 1), (1, 1)] := by kernel_rfl
theorem Bv8 : placesB Tryz.prog 71 = some [(0, 8), (8, 2)] := by kernel_rfl
theorem Aw8 : slB Tryz.prog 113 = some (69, 2) := by kernel_rfl
instance : Slc Tryz.prog 113 69 2 := ⟨Aw8⟩
theorem AW8 : slB Tryz.prog 162 = some (101, 4) := by kernel_rfl
instance : Slc Tryz.prog 162 101 4 := ⟨AW8⟩
theorem Bu8 : slB Tryz.prog 199 = some (201, 1) := by kernel_rfl
instance : Slc Tryz.prog 199 201 1 := ⟨Bu8⟩
theorem Bu7 : slB Tryz.prog 225 = some (143, 2) := by kernel_rfl
instance : Slc Tryz.prog 225 143 2 := ⟨Bu7⟩
theorem Aw7 : slB Tryz.prog 24 = some (36, 9) := by kernel_rfl
instance : Slc Tryz.prog 24 36 9 := ⟨Aw7⟩
theorem Am6 : slB Tryz.prog 40 = some (3, 1) := by kernel_rfl
instance : Slc Tryz.prog 40 3 1 := ⟨Am6⟩
theorem AH7 : slB Tryz.prog 41 = some (23, 2) := by kernel_rfl
instance : Slc Tryz.prog 41 23 2 := ⟨AH7⟩
theorem Aq5 : tyB Tryz.prog 101 = some (true, 4) := by kernel_rfl
instance : Tyc Tryz.prog 101 true 4 := ⟨Aq5⟩
theorem BN0 : tyB Tryz.prog 106 = some (true, 1) := by kernel_rfl
instance : Tyc Tryz.prog 106 true 1 := ⟨BN0⟩
theorem AG7 : tyB Tryz.prog 131 = some (false, 1) := by kernel_rfl
instance : Tyc Tryz.prog 131 false 1 := ⟨AG7⟩
theorem Am5 : tyB Tryz.prog 135 = some (true, 4) := by kernel_rfl
instance : Tyc Tryz.prog 135 true 4 := ⟨Am5⟩
theorem AW4 : tyB Tryz.prog 139 = some (false, 1) := by kernel_rfl
instance : Tyc Tryz.prog 139 false 1 := ⟨AW4⟩
theorem Ar8 : tyB Tryz.prog 143 = some (true, 2) := by kernel_rfl
instance : Tyc Tryz.prog 143 true 2 := ⟨Ar8⟩
theorem AJ9 : tyB Tryz.prog 167 = some (false, 1) := by kernel_rfl
instance : Tyc Tryz.prog 167 false 1 := ⟨AJ9⟩
theorem AP0 : tyB Tryz.prog 172 = some (true, 5) := by kernel_rfl
instance : Tyc Tryz.prog 172 true 5 := ⟨AP0⟩
theorem BZ4 : tyB Tryz.prog 179 = some (true, 5) := by kernel_rfl
instance : Tyc Tryz.prog 179 true 5 := ⟨BZ4⟩
theorem BM7 : tyB Tryz.prog 201 = some (false, 1) := by kernel_rfl
instance : Tyc Tryz.prog 201 false 1 := ⟨BM7⟩
theorem BM6 : tyB Tryz.prog 223 = some (true, 5) := by kernel_rfl
instance : Tyc Tryz.prog 223 true 5 := ⟨BM6⟩
theorem Ad7 : tyB Tryz.prog 23 = some (true, 2) := by kernel_rfl
instance : Tyc Tryz.prog 23 true 2 := ⟨Ad7⟩
theorem AJ8 : tyB Tryz.prog 24 = some (false, 1) := by kernel_rfl
instance : Tyc Tryz.prog 24 false 1 := ⟨AJ8⟩
theorem AJ7 : tyB Tryz.prog 26 = some (true, 8) := by kernel_rfl
instance : Tyc Tryz.prog 26 true 8 := ⟨AJ7⟩
theorem Ag0 : tyB Tryz.prog 3 = some (false, 1) := by kernel_rfl
instance : Tyc Tryz.prog 3 false 1 := ⟨Ag0⟩
theorem Ah4 : tyB Tryz.prog 30 = some (false, 1) := by kernel_rfl
instance : Tyc Tryz.prog 30 false 1 := ⟨Ah4⟩
theorem Ce3 : tyB Tryz.prog 34 = some (true, 4) := by kernel_rfl
instance : Tyc Tryz.prog 34 true 4 := ⟨Ce3⟩
theorem Av7 : tyB Tryz.prog 36 = some (true, 9) := by kernel_rfl
instance : Tyc Tryz.prog 36 true 9 := ⟨Av7⟩
theorem BS0 : tyB Tryz.prog 4 = some (false, 1) := by kernel_rfl
instance : Tyc Tryz.prog 4 false 1 := ⟨BS0⟩
theorem BF6 : tyB Tryz.prog 58 = some (false, 1) := by kernel_rfl
instance : Tyc Tryz.prog 58 false 1 := ⟨BF6⟩
theorem BR9 : tyB Tryz.prog 63 = some (true, 17) := by kernel_rfl
instance : Tyc Tryz.prog 63 true 17 := ⟨BR9⟩
theorem BR8 : tyB Tryz.prog 67 = some (false, 1) := by kernel_rfl
instance : Tyc Tryz.prog 67 false 1 := ⟨BR8⟩
theorem Ah6 : tyB Tryz.prog 69 = some (true, 2) := by kernel_rfl
instance : Tyc Tryz.prog 69 true 2 := ⟨Ah6⟩
theorem Bi4 : Tryz.prog.underlying 20 = some (.interface #[]) := by kernel_rfl
theorem Bn7 : Tryz.prog.underlying 3 = some (.int .i64) := by kernel_rfl
theorem Bt3 : Tryz.prog.underlying 89 = some (.int .u64) := by kernel_rfl
theorem Ar7 : zeroV Tryz.prog 143 = some (.agg #[.int .i64 0, .int .i64 0]) := by kernel_rfl
theorem Aj8 : zeroB Tryz.prog 101 = some [.int .i64 0, .int .i64 0, .int .i64 0, .int .i64 0] := by kernel_rfl
theorem Bi2 : zeroB Tryz.prog 106 = some [.int .i64 0] := by kernel_rfl
theorem Aq3 : zeroB Tryz.prog 135 = some [.int .i64 0, .int .i64 0, .int .i64 0, .int .i64 0] := by kernel_rfl
theorem Ah1 : zeroB Tryz.prog 143 = some [.int .i64 0, .int .i64 0] := by kernel_rfl
theorem BF1 : zeroB Tryz.prog 146 = some [.int .i64 0] := by kernel_rfl
theorem BF0 : zeroB Tryz.prog 148 = some [.int .i64 0, .int .i64 0] := by kernel_rfl
theorem BE8 : zeroB Tryz.prog 169 = some [.int .i64 0, .int .i64 0, .int .i64 0, .int .i64 0, .int .i64 0, .int .i64 0, .int .i64 0, .slice none 0 0, .int .i64 0, .int .i64 0, .int .i64 0, .int .i64 0, .int .i64 0, .int .i64 0, .int .i64 0, .int .i64 0, .int .i64 0, .map none] := by kernel_rfl
theorem AS4 : zeroB Tryz.prog 172 = some [.int .i64 0, .int .i64 0, .int .i64 0, .int .i64 0, .int .i64 0] := by kernel_rfl
theorem AS3 : zeroB Tryz.prog 179 = some [.pointer none, .int .i64 0, .int .i64 0, .int .i64 0, .int .i64 0] := by kernel_rfl
theorem BE7 : zeroB Tryz.prog 201 = some [.nilFunc] := by kernel_rfl
theorem BE6 : zeroB Tryz.prog 216 = some [] := by kernel_rfl
theorem BE5 : zeroB Tryz.prog 217 = some [] := by kernel_rfl
theorem BE4 : zeroB Tryz.prog 218 = some [] := by kernel_rfl
theorem BE3 : zeroB Tryz.prog 219 = some [] := by kernel_rfl
theorem BE2 : zeroB Tryz.prog 220 = some [] := by kernel_rfl
theorem Bi0 : zeroB Tryz.prog 223 = some [.nilIface, .nilIface, .nilIface, .nilIface, .nilIface] := by kernel_rfl
theorem Ac7 : zeroB Tryz.prog 23 = some [.int .i64 0, .int .i64 0] := by kernel_rfl
theorem Az7 : zeroB Tryz.prog 3 = some [.int .i64 0] := by kernel_rfl
theorem Ar5 : zeroB Tryz.prog 30 = some [.int .i64 0] := by kernel_rfl
theorem Av9 : zeroB Tryz.prog 36 = some [.int .i64 0, .int .i64 0, .int .i64 0, .int .i64 0, .int .i64 0, .int .i64 0, .int .i64 0, .int .i64 0, .int .i64 0] := by kernel_rfl
theorem BY9 : zeroB Tryz.prog 4 = some [.bool false] := by kernel_rfl
theorem BR1 : zeroB Tryz.prog 58 = some [.nilFunc] := by kernel_rfl
theorem BR0 : zeroB Tryz.prog 67 = some [.pointer none] := by kernel_rfl
theorem Ae3 : zeroB Tryz.prog 69 = some [.int .i64 0, .int .i64 0] := by kernel_rfl
theorem BQ9 : zeroB Tryz.prog 71 = some [.int .i64 0, .int .i64 0, .int .i64 0, .int .i64 0, .int .i64 0, .int .i64 0, .int .i64 0, .slice none 0 0, .int .i64 0, .int .i64 0] := by kernel_rfl
end Go.Proofs.YthbiaipagceokaaGreat
namespace Go.Proofs.YthbiaipagceokaaGreat
open Go Go.Eng Go.Pw1

theorem Ak6 (n lo hi : Int) (W : World) : Calls Tryz.prog 58 #[.int .i64 n, .int .i64 lo, .int .i64 hi] W (Pure (.bool (within n lo hi)) W) := by
  refine Aa2 Tryz.func58 rfl rfl ?_
  refine st ?_
  refine Ac3 (dj := 10) (dp := 14) 4 rfl (fun g10 => by
    have g10' := g10
    try simp only [nH] at g10'
    refine sv ?_
    exact zs g10
  ) (fun g10 => by
    have g10' := g10
    try simp only [nH] at g10'
    iterate 3 refine Ac6 rfl rfl rfl ?_
    refine sv ?_
    exact zs g10
  ) ?_
  refine su ?_
  exact Aa7 (.r1 rfl (.tmp rfl)) (by first | rfl | simp)
theorem Aq9 (s : Sp) (lo hi : Int) (W : World) : Calls Tryz.prog 87 #[.agg #[.int .i64 s.lo, .int .i64 s.hi], .int .i64 lo, .int .i64 hi] W (Pure (.bool (isSpan s lo hi)) W) := by
  refine Aa2 Tryz.func87 rfl rfl ?_
  refine st ?_
  refine zn (New.box rfl) (fun b3 => ?_)
  refine Ac3 (dj := 11) (dp := 17) 6 rfl (fun g11 => by
    have g11' := g11
    try simp only [nH] at g11'
    refine lv (Val.fieldAddr rfl Aj3) ?_
    refine lv (Aa3 rfl (.head _) Ag0 rfl) ?_
    refine lv (Val.fieldAddr rfl Ah5) ?_
    refine Aa1 (Aa3 rfl (.head _) Ag0 rfl) rfl rfl rfl ?_
    refine sv ?_
    exact zs g11
  ) (fun g11 => by
    have g11' := g11
    try simp only [nH] at g11'
    iterate 5 refine Ac6 rfl rfl rfl ?_
    refine sv ?_
    exact zs g11
  ) ?_
  refine st ?_
  refine Ac3 (dj := 18) (dp := 23) 5 rfl (fun g18 => by
    have g18' := g18
    try simp only [nH] at g18'
    refine lv (Val.fieldAddr rfl Ah5) ?_
    refine Aa1 (Aa3 rfl (.head _) Ag0 rfl) rfl rfl rfl ?_
    refine sv ?_
    exact zs g18
  ) (fun g18 => by
    have g18' := g18
    try simp only [nH] at g18'
    iterate 4 refine Ac6 rfl rfl rfl ?_
    refine sv ?_
    exact zs g18
  ) ?_
  refine su ?_
  exact Aa7 (.r1 rfl (.tmp rfl)) (by first | rfl | simp)
theorem AD9 (x y : Sp) (W : World) : Calls Tryz.prog 86 #[.agg #[.int .i64 x.lo, .int .i64 x.hi, .int .i64 y.lo, .int .i64 y.hi]] W (Pure (.bool (isPlace x y)) W) := by
  refine Aa2 Tryz.func86 rfl rfl ?_
  refine st ?_
  refine zn (New.box rfl) (fun b1 => ?_)
  refine zc (zF rfl Bk9) (fun w hm => Aq9 ⟨_, _⟩ _ _ w) ?_
  refine Ac3 (dj := 6) (dp := 10) 4 rfl (fun g6 => by
    have g6' := g6
    try simp only [nH] at g6'
    refine su ?_
    refine Ab3 (zF rfl Bk9) rfl rfl rfl (fun w hm => Aq9 ⟨_, _⟩ _ _ w) ?_
    refine sv ?_
    exact zs g6
  ) (fun g6 => by
    have g6' := g6
    try simp only [nH] at g6'
    iterate 3 refine Ac6 rfl rfl rfl ?_
    refine sv ?_
    exact zs g6
  ) ?_
  refine su ?_
  exact Aa7 (.r1 rfl (.tmp rfl)) (by first | rfl | simp)
theorem BD0 (p : Pr) (q : Option Addr) (cap : Nat) (t : Th) (bf bp : Nat) (W : World) (hf : W.heap[bf]? = some (.cells #[.func (.func 86) #[] #[]] 58 (0, 0))) (hp : W.heap[bp]? = some (.cells (p.cells q cap).toArray 26 (0, 0))) :
    Calls Tryz.prog 88 #[t.v, .pointer (some ⟨bf, 0, none⟩), .pointer (some ⟨bp, 0, none⟩)] W (Pure (.bool (bad p t)) W) := by
  refine Aa2 Tryz.func88 rfl rfl ?_
  refine st ?_
  refine zn (New.box rfl) (fun b3 => ?_)
  refine lu (Aa4 rfl hf (by simp) BF6 rfl) ?_
  refine Ab3 (Ad1 rfl rfl BO2) rfl rfl rfl (fun w hm => AD9 ⟨_, _⟩ ⟨_, _⟩ w) ?_
  refine st ?_
  refine Ad3 (dj := 10) (dp := 16) 6 rfl (fun g10 => by
    have g10' := g10
    try simp only [nH] at g10'
    refine lu (Aa4 rfl hf (by simp) BF6 rfl) ?_
    refine Ab3 (Ad1 rfl rfl BO2) rfl rfl rfl (fun w hm => AD9 ⟨_, _⟩ ⟨_, _⟩ w) ?_
    refine sv ?_
    exact zs g10
  ) (fun g10 => by
    have g10' := g10
    try simp only [nH] at g10'
    iterate 5 refine Ac6 rfl rfl rfl ?_
    refine sv ?_
    exact zs g10
  ) ?_
  refine st ?_
  refine Ad3 (dj := 17) (dp := 31) 14 rfl (fun g17 => by
    have g17' := g17
    try simp only [nH] at g17'
    refine su ?_
    refine Ac3 (dj := 21) (dp := 30) 9 rfl (fun g21 => by
      have g21' := g21
      try simp only [nH] at g21'
      refine su ?_
      refine lu (Aa4 rfl hp (by simp) Ag0 rfl) ?_
      refine lv (Aa4 rfl hp (by simp) Ag0 rfl) ?_
      refine Ab3 (zF rfl AQ3) rfl rfl rfl (fun w hm => Ak6 _ _ _ w) ?_
      refine sv ?_
      exact zs g21
    ) (fun g21 => by
      have g21' := g21
      try simp only [nH] at g21'
      iterate 8 refine Ac6 rfl rfl rfl ?_
      refine sv ?_
      exact zs g21
    ) ?_
    refine sv ?_
    exact zs g17
  ) (fun g17 => by
    have g17' := g17
    try simp only [nH] at g17'
    iterate 13 refine Ac6 rfl rfl rfl ?_
    refine sv ?_
    exact zs g17
  ) ?_
  refine su ?_
  exact Aa7 (.r1 rfl (.tmp rfl)) (by first | rfl | simp)

theorem Ae1 (t : Th) (ht : t.Ok) (W : World) : Calls Tryz.prog 36 #[t.v] W (Pure (b2v (shift t)) W) := by
  obtain ⟨⟨h1, h2, h3⟩, ⟨h4, h5, h6⟩, ⟨h7, h8, h9⟩, ⟨h10, h11, h12⟩⟩ := ht
  refine Aa2 Tryz.func36 rfl rfl ?_
  refine st ?_
  refine zn (New.box rfl) (fun b1 => ?_)
  refine zn (New.alloc Ac7) (fun b2 => ?_)
  refine lu (Af3 rfl rfl (IntWalk.i64_in _ ⟨by omega, by omega⟩)) ?_
  refine lv (Af3 rfl rfl (IntWalk.i64_in _ ⟨by omega, by omega⟩)) ?_
  refine lv (Val.build (parts := [(0, .tmp 11), (1, .tmp 20)]) rfl Ac7 Ah7 rfl) ?_
  refine Aa9 (Sto.store rfl rfl .here Ad7 rfl rfl) rfl rfl ?_
  refine su ?_
  exact Aa7 (.r1 rfl (.agg rfl (.head _) Ad7 rfl)) (by first | rfl | simp)
theorem Aw6 (b : Int × Int) (W : World) : Calls Tryz.prog 27 #[.agg #[.int .i64 b.1, .int .i64 b.2]] W (Pure (b2v b) W) := by
  refine Aa2 Tryz.func27 rfl rfl ?_
  refine st ?_
  refine zn (New.box rfl) (fun b1 => ?_)
  refine zn (New.alloc Ac7) (fun b2 => ?_)
  refine lu (Aa8 rfl rfl Aj5 (by decide) (by decide)) ?_
  refine lu (Aa8 rfl rfl Aj5 (by decide) (by decide)) ?_
  refine lv (Val.build (parts := [(0, .tmp 4), (1, .tmp 6)]) rfl Ac7 Ah7 rfl) ?_
  refine Aa9 (Sto.store rfl rfl .here Ad7 rfl rfl) rfl rfl ?_
  refine su ?_
  exact Aa7 (.r1 rfl (.agg rfl (.head _) Ad7 rfl)) (by first | rfl | simp)

/-- Some pairs of bounds, taken together. -/
theorem Af7 (a : Int × Int) (l : List (Int × Int)) (q : Option Addr) (b o cap : Nat) (W : World) (hS : Sl W q b o 2 (l.map b2c)) (hl : l.length ≤ 100) :
    Calls Tryz.prog 26 #[b2v a, .slice q l.length cap] W (Pure (.tuple #[b2v (narL a l), .bool (isB (narL a l))]) W) := by
  refine Aa2 Tryz.func26 rfl rfl ?_
  refine st ?_
  refine zn (New.box rfl) (fun b2 => ?_)
  refine zn (New.alloc Ae3) (fun b4 => ?_)
  refine Af5 (l.length) (fun k q => (10, .int .i64 (k : Int)) :: q) (fun _ => _) (fun k => [(b2, .cells (b2c (narL a (l.take k))).toArray 69 (0, 0))]) (fun _ => True) trivial rfl (zE 10 rfl rfl (zS 8 rfl (zS 9 rfl (zS 2 rfl (zS 4 rfl (Sub.nil _)))))) (.cons (.there .here) rfl (.cons .here rfl .nil)) ?_
  intro k kN kI
  clear kI
  refine st ?_
  refine cn rfl ?_ ?_
  ·intro c0'
   have hk : k < l.length := by omega
   refine st ?_
   refine lv (Ab0 rfl rfl Aw8 (by omega) (by omega) (hS.ptrM hk)) ?_
   refine lv (Ab8 rfl (fun w hm => hS.loadM (by decide) hm (by simp) Ah6 hk)) ?_
   refine zn (New.alloc Ae3) (fun b7 => ?_)
   refine Aa9 (Sto.store rfl rfl .here Ah6 rfl rfl) rfl rfl ?_
   refine st ?_
   refine lu (Aa8 rfl rfl Aj5 (by decide) (by decide)) ?_
   refine lu (Aa8 rfl rfl Aj5 (by decide) (by decide)) ?_
   refine lv (Val.max rfl rfl) ?_
   refine lu (Aa8 rfl rfl Aj5 (by decide) (by decide)) ?_
   refine lu (Aa8 rfl rfl Aj5 (by decide) (by decide)) ?_
   refine lv (Val.min rfl rfl) ?_
   refine lv (Val.build (parts := [(0, .tmp 18), (1, .tmp 23)]) rfl Ae3 Ai3 rfl) ?_
   refine Aa9 (Sto.store rfl rfl (.there .here) Ah6 rfl rfl) rfl rfl ?_
   refine st ?_
   refine lv (Val.add rfl rfl (IntWalk.i64_in _ ⟨by omega, by omega⟩)) ?_
   exact Ae4 (by omega) trivial rfl (zE 10 rfl rfl (zS 8 rfl (zS 9 rfl (zS 2 rfl (zS 4 rfl (Sub.nil _)))))) (.cons (.there .here) (by rw [List.take_succ_eq_append_getElem hk, AZ1]; rfl) (.cons (.there .here) rfl .nil))
  intro c0'
  obtain rfl : k = l.length := by omega
  rw [List.take_length]
  refine RunC.exit ?_
  refine su ?_
  refine Ab2 ?_
  refine st ?_
  refine Ae5 7 Al3 (.cons .here rfl .nil) ?_
  refine zw 0 ?_
  refine zv 1 rfl (Aa8 rfl rfl Aj5 (by decide) (by decide)) ?_
  refine zw 2 ?_
  refine zv 3 rfl (Aa8 rfl rfl Aj5 (by decide) (by decide)) ?_
  refine zw 4 ?_
  refine zw 5 ?_
  refine zA 6 ?_
  refine Ab9 rfl (Sto.store rfl rfl (.there .here) Ah6 rfl rfl) rfl rfl (Aa0 (.cons .here rfl .nil) (.cons .here rfl .nil) rfl ?_)
  refine zt ?_
  refine zp 7 ?_
  refine zd ?_
  refine su ?_
  exact Aa7 (.r2 rfl (.agg rfl (.tail _ (.head _)) Ah6 rfl) (.tmp rfl)) (by first | rfl | simp)
end Go.Proofs.YthbiaipagceokaaGreat
namespace Go.Proofs.YthbiaipagceokaaGreat
open Go Go.Eng Go.Pw1

theorem AA7 (t : Th) (ht : t.Ok) (W : World) : Calls Tryz.prog 25 #[t.v] W (Pure (.tuple #[b2v (shownS t), .bool (isB (shownS t))]) W) := by
  refine Aa2 Tryz.func25 rfl rfl ?_
  refine st ?_
  refine zn (New.box rfl) (fun b1 => ?_)
  refine zn (New.alloc Ae3) (fun b2 => ?_)
  refine zc (zF rfl Ak8) (fun w hm => Ae1 ⟨⟨_, _⟩, ⟨_, _⟩, ⟨_, _⟩, ⟨_, _⟩, _⟩ (by assumption) w) ?_
  refine zn (New.alloc Ac7) (fun b4 => ?_)
  refine Aa9 (Sto.store rfl rfl .here Ad7 rfl rfl) rfl rfl ?_
  refine su ?_
  refine lv (Val.build (parts := [(0, .tmp 8), (1, .tmp 10)]) rfl Ae3 Ai3 rfl) ?_
  refine lv (Val.build (parts := [(0, .const (.int .i64 0)), (1, .const (.int .i64 2000))]) rfl Ae3 Ai3 rfl) ?_
  refine zn (New.buildSlice (parts := [(0, .tmp 12)]) rfl Aw8 Ae3 rfl rfl rfl rfl) (fun b13 => ?_)
  refine zc (zF rfl Av6) (fun w hm => Af7 (_, _) [(_, _)] _ _ _ _ w (Sl.one (hm.at (.head _)) rfl) (by simp)) ?_
  refine Aa9 (Sto.store rfl rfl (.there (.there .here)) Ah6 rfl rfl) rfl rfl ?_
  refine su ?_
  exact Aa7 (.r2 rfl (.agg rfl (.tail _ (.tail _ (.head _))) Ah6 rfl) (.tmp rfl)) (by first | rfl | simp)
theorem AB3 (p : Pr) (hp : p.Ok) (q : Option Addr) (cap : Nat) (pw : Int × Int) (t : Th) (ht : t.Ok) (bv : Nat) (W : World) (hV : W.heap[bv]? = some (.cells (vwCells p q cap pw).toArray 71 (0, 0))) :
    Calls Tryz.prog 42 #[.pointer (some ⟨bv, 0, none⟩), t.v] W (Pure (.bool (levelS p t)) W) := by
  obtain ⟨⟨h1, h2, h3⟩, ⟨h4, h5, h6⟩, ⟨h7, h8, h9⟩, ⟨h10, h11, h12⟩⟩ := ht
  have t1 := hp.t1
  have t2 := hp.t2
  refine Aa2 Tryz.func42 rfl rfl ?_
  refine st ?_
  refine zn (New.box rfl) (fun b3 => ?_)
  refine lu (Af3 rfl rfl (IntWalk.i64_in _ ⟨by omega, by omega⟩)) ?_
  refine lv (Af3 rfl rfl (IntWalk.i64_in _ ⟨by omega, by omega⟩)) ?_
  refine lv (Val.build (parts := [(0, .tmp 16), (1, .tmp 25)]) rfl Ae3 Ai3 rfl) ?_
  refine zn (New.alloc Ae3) (fun b5 => ?_)
  refine Aa9 (Sto.store rfl rfl .here Ah6 rfl rfl) rfl rfl ?_
  refine nnx ?_
  refine RunC.seq ?_
  apply Am2 (J := J2 _ _ _ _ _ _) 20 Al3 (.cons .here rfl (.cons .here rfl .nil))
  ·refine zw 0 ?_
   refine zw 1 ?_
   refine zw 2 ?_
   refine zw 3 ?_
   refine zw 4 ?_
   refine zv 5 rfl (Aa4 rfl hV (by simp) Ag0 rfl) ?_
   refine zv 6 rfl (Val.neg rfl (IntWalk.i64_in _ ⟨by omega, by omega⟩)) ?_
   refine zw 7 ?_
   refine zw 8 ?_
   refine zw 9 ?_
   refine zw 10 ?_
   refine zv 11 rfl (Aa4 rfl hV (by simp) Ag0 rfl) ?_
   refine zv 12 rfl (Val.build (parts := [(0, .tmp 34), (1, .tmp 39)]) rfl Ae3 Ai3 rfl) ?_
   refine Ae8 (rs := [13, 18]) (by kernel_rfl) (by simp) (by kernel_rfl) (fun m hm => ?_)
   simp only [List.mem_cons, List.not_mem_nil, or_false] at hm
   rcases hm with rfl | rfl
   ·refine Ac8 rfl (New.buildSlice (parts := [(0, .tmp 40)]) rfl Aw8 Ae3 rfl rfl rfl rfl) rfl rfl rfl (fun b41 => (Aa0 (.cons .here rfl (.cons .here rfl (.cons .here rfl .nil))) (.cons (.there .here) rfl (.cons (.there .here) rfl .nil)) rfl ?_))
    refine Ae8 (rs := [14, 18]) (by kernel_rfl) (by simp) (by kernel_rfl) (fun m hm => ?_)
    simp only [List.mem_cons, List.not_mem_nil, or_false] at hm
    rcases hm with rfl | rfl
    ·refine Ab4 rfl (zF rfl Av6) rfl rfl rfl (fun w hm => Af7 (_, _) [(_, _)] _ _ _ _ w (Sl.one (hm.at (.head _)) rfl) (by simp)) (Aa0 (.cons .here rfl (.cons .here rfl (.cons .here rfl .nil))) (.cons .here rfl (.cons .here rfl (.cons .here rfl .nil))) rfl ?_)
     refine zw 15 ?_
     refine zw 16 ?_
     refine zw 17 ?_
     refine zA 18 ?_
     refine Ac8 rfl (New.alloc Ae3) rfl rfl rfl (fun b6 => (Aa0 (.cons (.there .here) rfl (.cons (.there .here) rfl (.cons (.there .here) rfl .nil))) (.cons .here rfl (.cons .here rfl (.cons .here rfl .nil))) rfl ?_))
     refine zA 19 ?_
     refine Ab9 rfl (Sto.store rfl rfl .here Ah6 rfl rfl) rfl rfl (Aa0 (.cons (.there .here) rfl (.cons (.there .here) rfl (.cons (.there .here) rfl .nil))) (.cons .here rfl (.cons .here rfl (.cons .here rfl .nil))) rfl ?_)
     refine zt ?_
     refine zp 20 ?_
     refine zd ?_
     exact Ae7 b41 b6 (Ab5 _) (Pick.refl _)
    refine Ac8 rfl (New.alloc Ae3) rfl rfl rfl (fun b6 => (Aa0 (.cons (.there .here) rfl (.cons (.there .here) rfl (.cons (.there .here) rfl .nil))) (.cons .here rfl (.cons .here rfl (.cons .here rfl .nil))) rfl ?_))
    refine zA 14 ?_
    refine Ab4 rfl (zF rfl Av6) rfl rfl rfl (fun w hm => Af7 (_, _) [(_, _)] _ _ _ _ w (Sl.one (hm.at (.tail _ (.head _))) rfl) (by simp)) (Aa0 (.cons (.there .here) rfl (.cons (.there .here) rfl (.cons (.there .here) rfl .nil))) (.cons .here rfl (.cons .here rfl (.cons .here rfl .nil))) rfl ?_)
    refine zw 15 ?_
    refine zw 16 ?_
    refine zw 17 ?_
    refine zA 19 ?_
    refine Ab9 rfl (Sto.store rfl rfl .here Ah6 rfl rfl) rfl rfl (Aa0 (.cons (.there .here) rfl (.cons (.there .here) rfl (.cons (.there .here) rfl .nil))) (.cons .here rfl (.cons .here rfl (.cons .here rfl .nil))) rfl ?_)
    refine zt ?_
    refine zp 20 ?_
    refine zd ?_
    exact Ae7 b41 b6 (zS 7 rfl (zS 6 rfl (zS 44 rfl (zS 43 rfl (zS 27 rfl (zS 42 rfl (zS 41 rfl (zS 40 rfl (zS 39 rfl (zS 38 rfl (zS 37 rfl (zS 36 rfl (zS 35 rfl (zS 34 rfl (zS 33 rfl (zS 32 rfl (zS 31 rfl (zS 30 rfl (zS 29 rfl (zS 28 rfl (Sub.skip rfl (Sub.skip rfl (Sub.skip rfl (Sub.skip rfl (Sub.skip rfl (Sub.skip rfl (Sub.skip rfl (Sub.skip rfl (Sub.skip rfl (Sub.skip rfl (Sub.skip rfl (Sub.skip rfl (Sub.skip rfl (Sub.skip rfl (Sub.skip rfl (Sub.skip rfl (Sub.skip rfl (Sub.skip rfl (Sub.skip rfl (Sub.skip rfl (Ab5 _))))))))))))))))))))))))))))))))))))))))) (.cons .here rfl (.cons .here rfl (.cons .here rfl (.cons .here rfl .nil))))
   refine Ac8 rfl (New.alloc Ae3) rfl rfl rfl (fun b6 => (Aa0 (.cons (.there .here) rfl (.cons (.there .here) rfl .nil)) (.cons .here rfl (.cons .here rfl .nil)) rfl ?_))
   refine zA 13 ?_
   refine Ac8 rfl (New.buildSlice (parts := [(0, .tmp 40)]) rfl Aw8 Ae3 rfl rfl rfl rfl) rfl rfl rfl (fun b41 => (Aa0 (.cons .here rfl (.cons (.there .here) rfl (.cons (.there .here) rfl .nil))) (.cons (.there .here) rfl (.cons (.there .here) rfl .nil)) rfl ?_))
   refine zA 14 ?_
   refine Ab4 rfl (zF rfl Av6) rfl rfl rfl (fun w hm => Af7 (_, _) [(_, _)] _ _ _ _ w (Sl.one (hm.at (.head _)) rfl) (by simp)) (Aa0 (.cons .here rfl (.cons (.there .here) rfl (.cons (.there .here) rfl .nil))) (.cons .here rfl (.cons .here rfl (.cons .here rfl .nil))) rfl ?_)
   refine zw 15 ?_
   refine zw 16 ?_
   refine zw 17 ?_
   refine zA 19 ?_
   refine Ab9 rfl (Sto.store rfl rfl (.there .here) Ah6 rfl rfl) rfl rfl (Aa0 (.cons .here rfl (.cons (.there .here) rfl (.cons (.there .here) rfl .nil))) (.cons .here rfl (.cons .here rfl (.cons .here rfl .nil))) rfl ?_)
   refine zt ?_
   refine zp 20 ?_
   refine zd ?_
   exact Ae7 b41 b6 (zS 7 rfl (zS 6 rfl (zS 44 rfl (zS 43 rfl (zS 27 rfl (zS 42 rfl (zS 41 rfl (zS 40 rfl (zS 39 rfl (zS 38 rfl (zS 37 rfl (zS 36 rfl (zS 35 rfl (zS 34 rfl (zS 33 rfl (zS 32 rfl (zS 31 rfl (zS 30 rfl (zS 29 rfl (zS 28 rfl (Sub.skip rfl (Sub.skip rfl (Sub.skip rfl (Sub.skip rfl (Sub.skip rfl (Sub.skip rfl (Sub.skip rfl (Sub.skip rfl (Sub.skip rfl (Sub.skip rfl (Sub.skip rfl (Sub.skip rfl (Sub.skip rfl (Sub.skip rfl (Sub.skip rfl (Sub.skip rfl (Sub.skip rfl (Sub.skip rfl (Sub.skip rfl (Sub.skip rfl (Ab5 _))))))))))))))))))))))))))))))))))))))))) (.cons (.there .here) rfl (.cons .here rfl (.cons .here rfl (.cons .here rfl .nil))))
  refine J2.out (fun b41 b6 => ?_)
  refine su ?_
  exact Aa7 (.r1 rfl (.tmp rfl)) (by first | rfl | simp)
theorem BT1 (p : Pr) (q : Option Addr) (cap : Nat) (pw : Int × Int) (t : Th) (hf : t.far ≠ 0) (bv : Nat) (W : World) (_hV : W.heap[bv]? = some (.cells (vwCells p q cap pw).toArray 71 (0, 0))) :
    Calls Tryz.prog 43 #[.pointer (some ⟨bv, 0, none⟩), t.v] W (Pure (.iface 146 (.agg #[.int .i64 t.far])) W) := by
  refine Aa2 Tryz.func43 rfl rfl ?_
  refine st ?_
  refine zn (New.box rfl) (fun b3 => ?_)
  refine RunC.cond rfl ?_ (fun h => absurd h (by simpa using hf))
  intro c0
  clear c0
  refine su ?_
  refine lv (Val.build (parts := [(0, .tmp 9)]) rfl BF1 Bp3 rfl) ?_
  refine lu (Val.makeInterface rfl BI4) ?_
  exact Aa7 (.r1 rfl (.tmp rfl)) (by first | rfl | simp)
theorem BH7 (p : Pr) (q : Option Addr) (cap : Nat) (pw : Int × Int) (t : Th) (hf : t.far = 0) (bv : Nat) (W : World) (hV : W.heap[bv]? = some (.cells (vwCells p q cap pw).toArray 71 (0, 0))) :
    Calls Tryz.prog 43 #[.pointer (some ⟨bv, 0, none⟩), t.v] W (Pure (.iface 148 (.agg #[.int .i64 p.near, .int .i64 p.far])) W) := by
  refine Aa2 Tryz.func43 rfl rfl ?_
  refine st ?_
  refine zn (New.box rfl) (fun b3 => ?_)
  refine RunC.cond rfl (fun h => absurd h (by simpa using hf)) ?_
  intro c0
  clear c0
  refine st ?_
  refine Ae5 10 Al3 (.cons .here rfl .nil) ?_
  refine zw 0 ?_
  refine zw 1 ?_
  refine zw 2 ?_
  refine zw 3 ?_
  refine zv 4 rfl (Aa4 rfl hV (by simp) Ag0 rfl) ?_
  refine zw 5 ?_
  refine zw 6 ?_
  refine zw 7 ?_
  refine zw 8 ?_
  refine zv 9 rfl (Aa4 rfl hV (by simp) Ag0 rfl) ?_
  refine zt ?_
  refine zo 10 rfl (Val.build (parts := [(0, .tmp 16), (1, .tmp 21)]) rfl BF0 Bp2 rfl) ?_
  refine zo 11 rfl (Val.makeInterface rfl BI3) ?_
  refine zp 12 ?_
  refine zd ?_
  refine su ?_
  exact Aa7 (.r1 rfl (.tmp rfl)) (by first | rfl | simp)
theorem Bq3 (f : Int) (h0 : 0 ≤ f) (h1 : f ≤ 1073741824) (s : Int × Int) (g0 : 0 ≤ s.1) (g1 : s.1 ≤ s.2) (g2 : s.2 ≤ 2000) (W : World) :
    Calls Tryz.prog 157 #[.agg #[.int .i64 f], .agg #[.int .i64 s.1, .int .i64 s.2]] W (Pure (b2v (s.1 * f, (s.2 + 1) * f - 1)) W) := by
  have m1 := AG9 g0 (Int.le_trans g1 g2) h0 h1
  have m2 := AG9 (a := s.2 + 1) (A := 2001) (by omega) (by omega) h0 h1
  refine Aa2 Tryz.func157 rfl rfl ?_
  refine st ?_
  refine zn (New.box rfl) (fun b2 => ?_)
  refine zn (New.box rfl) (fun b3 => ?_)
  refine zn (New.alloc Ae3) (fun b4 => ?_)
  refine lu (Aa8 rfl rfl Aj5 (by decide) (by decide)) ?_
  refine lv (Val.mul rfl rfl (IntWalk.i64_in _ ⟨by omega, by omega⟩)) ?_
  refine lu (Aa8 rfl rfl Aj5 (by decide) (by decide)) ?_
  refine lu (Val.add rfl rfl (IntWalk.i64_in _ ⟨by omega, by omega⟩)) ?_
  refine lv (Val.mul rfl rfl (IntWalk.i64_in _ ⟨by omega, by omega⟩)) ?_
  refine lv (Af3 rfl rfl (IntWalk.i64_in _ ⟨by omega, by omega⟩)) ?_
  refine lv (Val.build (parts := [(0, .tmp 9), (1, .tmp 16)]) rfl Ae3 Ai3 rfl) ?_
  refine Aa9 (Sto.store rfl rfl .here Ah6 rfl rfl) rfl rfl ?_
  refine su ?_
  exact Aa7 (.r1 rfl (.agg rfl (.head _) Ah6 rfl)) (by first | rfl | simp)
theorem Be6 (f f' : Int) (h0 : 0 ≤ f) (h1 : f ≤ 1073741824) (h0' : 0 ≤ f') (h1' : f' ≤ 1073741824) (s : Int × Int) (g0 : 0 ≤ s.1) (g1 : s.1 ≤ s.2) (g2 : s.2 ≤ 2000) (W : World) :
    Calls Tryz.prog 158 #[.agg #[.int .i64 f, .int .i64 f'], .agg #[.int .i64 s.1, .int .i64 s.2]] W (Pure (b2v (s.1 * f, (s.2 + 1) * f' - 1)) W) := by
  have m1 := AG9 g0 (Int.le_trans g1 g2) h0 h1
  have m2 := AG9 (a := s.2 + 1) (A := 2001) (by omega) (by omega) h0' h1'
  refine Aa2 Tryz.func158 rfl rfl ?_
  refine st ?_
  refine zn (New.box rfl) (fun b2 => ?_)
  refine zn (New.box rfl) (fun b3 => ?_)
  refine zn (New.alloc Ae3) (fun b4 => ?_)
  refine lu (Aa8 rfl rfl Aj5 (by decide) (by decide)) ?_
  refine lv (Val.mul rfl rfl (IntWalk.i64_in _ ⟨by omega, by omega⟩)) ?_
  refine lu (Aa8 rfl rfl Aj5 (by decide) (by decide)) ?_
  refine lu (Val.add rfl rfl (IntWalk.i64_in _ ⟨by omega, by omega⟩)) ?_
  refine lv (Val.mul rfl rfl (IntWalk.i64_in _ ⟨by omega, by omega⟩)) ?_
  refine lv (Af3 rfl rfl (IntWalk.i64_in _ ⟨by omega, by omega⟩)) ?_
  refine lv (Val.build (parts := [(0, .tmp 9), (1, .tmp 16)]) rfl Ae3 Ai3 rfl) ?_
  refine Aa9 (Sto.store rfl rfl .here Ah6 rfl rfl) rfl rfl ?_
  refine su ?_
  exact Aa7 (.r1 rfl (.agg rfl (.head _) Ah6 rfl)) (by first | rfl | simp)
/-- A thing stands still, or not. -/
theorem Am0 (p : Pr) (hp : p.Ok) (q : Option Addr) (cap : Nat) (pw : Int × Int) (t : Th) (ht : t.Ok) (hf : t.far = 0 ∨ (p.near ≤ t.far ∧ t.far ≤ p.far)) (w0 : Int × Int) (bv : Nat) (W : World) (hV : W.heap[bv]? = some (.cells (vwCells p q cap pw).toArray 71 (0, 0))) :
    Calls Tryz.prog 23 #[.pointer (some ⟨bv, 0, none⟩), t.v, .agg #[.int .i64 w0.1, .int .i64 w0.2]] W (Pure (.tuple #[b2v (stillS p t w0).1, .bool (stillS p t w0).2]) W) := by
  have n1 := hp.n1
  have n2 := hp.n2
  have n3 := hp.n3
  by_cases h0 : t.far = 0
  · refine Aa2 Tryz.func23 rfl rfl ?_
    refine st ?_
    refine zn (New.box rfl) (fun b4 => ?_)
    refine zn (New.box rfl) (fun b5 => ?_)
    refine zn (New.alloc Ae3) (fun b6 => ?_)
    refine zc (zF rfl BC1) (fun w hm => AA7 t ht w) ?_
    refine zn (New.alloc Ae3) (fun b8 => ?_)
    refine Aa9 (Sto.store rfl rfl .here Ah6 rfl rfl) rfl rfl ?_
    refine st ?_
    refine Ad3 (dj := 17) (dp := 22) 5 rfl (fun g17 => by
      have g17' := g17
      try simp only [nH] at g17'
      refine su ?_
      refine Ab3 (zF rfl BB6) rfl rfl rfl (fun w hm => AB3 p hp q cap pw t ht bv w (hm.old_at hV (by simp))) ?_
      refine sv ?_
      exact zs g17
    ) (fun g17 => by
      have g17' := g17
      try simp only [nH] at g17'
      iterate 4 refine Ac6 rfl rfl rfl ?_
      refine sv ?_
      exact zs g17
    ) ?_
    refine st ?_
    refine cn rfl ?_ ?_
    ·intro c0'
     refine su ?_
     refine Aa9 (Sto.store rfl rfl (.there .here) Ah6 rfl rfl) rfl rfl ?_
     refine su ?_
     exact Aa7 (.r2 rfl (.agg rfl (.tail _ (.head _)) Ah6 rfl) (.tmp rfl)) (by have e : stillS p t w0 = (w0, false) := (by rcases c0' with h | h <;> simp [stillS, h]); rw [e]; rfl)
    intro c0'
    have bd := At7 c0'.1
    refine st ?_
    refine Ae5 10 Al3 (.cons .here rfl (.cons .here rfl (.cons .here rfl (.cons .here rfl .nil)))) ?_
    refine zw 0 ?_
    refine zw 1 ?_
    refine zw 2 ?_
    refine zw 4 ?_
    refine zA 3 ?_
    refine Ab4 rfl (zF rfl BP5) rfl rfl rfl (fun w hm => BH7 p q cap pw t h0 bv w (hm.old_at hV (by simp))) (Aa0 (.cons .here rfl (.cons .here rfl (.cons .here rfl (.cons .here rfl .nil)))) (.cons .here rfl (.cons .here rfl (.cons .here rfl (.cons .here rfl .nil)))) rfl ?_)
    refine zA 5 ?_
    refine Ab4 rfl (Ai0 rfl rfl (fun w => An2 _ w) BU5) rfl rfl rfl (fun w hm => Be6 _ _ (by omega) (by omega) (by omega) (by omega) (shownS t) bd.1 bd.2.1 bd.2.2 w) (Aa0 (.cons .here rfl (.cons .here rfl (.cons .here rfl (.cons .here rfl .nil)))) (.cons .here rfl (.cons .here rfl (.cons .here rfl (.cons .here rfl .nil)))) rfl ?_)
    refine zA 6 ?_
    refine Ac8 rfl (New.buildSlice (parts := [(0, .tmp 29)]) rfl Aw8 Ae3 rfl rfl rfl rfl) rfl rfl rfl (fun b30 => (Aa0 (.cons .here rfl (.cons .here rfl (.cons .here rfl (.cons .here rfl (.cons .here rfl .nil))))) (.cons (.there .here) rfl (.cons (.there .here) rfl (.cons (.there .here) rfl (.cons (.there .here) rfl .nil)))) rfl ?_))
    refine zA 7 ?_
    refine Ab4 rfl (zF rfl Av6) rfl rfl rfl (fun w hm => Af7 (_, _) [(_, _)] _ _ _ _ w (Sl.one (hm.at (.head _)) rfl) (by simp)) (Aa0 (.cons .here rfl (.cons .here rfl (.cons .here rfl (.cons .here rfl (.cons .here rfl .nil))))) (.cons .here rfl (.cons .here rfl (.cons .here rfl (.cons .here rfl (.cons .here rfl .nil))))) rfl ?_)
    refine zw 8 ?_
    refine zw 9 ?_
    refine zt ?_
    refine zB 10 ?_
    refine Ab9 rfl (Sto.store rfl rfl (.there (.there .here)) Ah6 rfl rfl) rfl rfl (Ab1 ?_)
    refine zp 11 ?_
    refine zd ?_
    refine su ?_
    exact Aa7 (.r2 rfl (.agg rfl (.tail _ (.tail _ (.head _))) Ah6 rfl) (.tmp rfl)) (by have e : stillS p t w0 = (nar w0 (powersS p t (shownS t)), isB (nar w0 (powersS p t (shownS t)))) := (by simp [stillS, c0'.1, c0'.2]); rw [e]; simp only [powersS, h0, if_true]; rfl)
  · refine Aa2 Tryz.func23 rfl rfl ?_
    refine st ?_
    refine zn (New.box rfl) (fun b4 => ?_)
    refine zn (New.box rfl) (fun b5 => ?_)
    refine zn (New.alloc Ae3) (fun b6 => ?_)
    refine zc (zF rfl BC1) (fun w hm => AA7 t ht w) ?_
    refine zn (New.alloc Ae3) (fun b8 => ?_)
    refine Aa9 (Sto.store rfl rfl .here Ah6 rfl rfl) rfl rfl ?_
    refine st ?_
    refine Ad3 (dj := 17) (dp := 22) 5 rfl (fun g17 => by
      have g17' := g17
      try simp only [nH] at g17'
      refine su ?_
      refine Ab3 (zF rfl BB6) rfl rfl rfl (fun w hm => AB3 p hp q cap pw t ht bv w (hm.old_at hV (by simp))) ?_
      refine sv ?_
      exact zs g17
    ) (fun g17 => by
      have g17' := g17
      try simp only [nH] at g17'
      iterate 4 refine Ac6 rfl rfl rfl ?_
      refine sv ?_
      exact zs g17
    ) ?_
    refine st ?_
    refine cn rfl ?_ ?_
    ·intro c0'
     refine su ?_
     refine Aa9 (Sto.store rfl rfl (.there .here) Ah6 rfl rfl) rfl rfl ?_
     refine su ?_
     exact Aa7 (.r2 rfl (.agg rfl (.tail _ (.head _)) Ah6 rfl) (.tmp rfl)) (by have e : stillS p t w0 = (w0, false) := (by rcases c0' with h | h <;> simp [stillS, h]); rw [e]; rfl)
    intro c0'
    have bd := At7 c0'.1
    refine st ?_
    refine Ae5 10 Al3 (.cons .here rfl (.cons .here rfl (.cons .here rfl (.cons .here rfl .nil)))) ?_
    refine zw 0 ?_
    refine zw 1 ?_
    refine zw 2 ?_
    refine zw 4 ?_
    refine zA 3 ?_
    refine Ab4 rfl (zF rfl BP5) rfl rfl rfl (fun w hm => BT1 p q cap pw t h0 bv w (hm.old_at hV (by simp))) (Aa0 (.cons .here rfl (.cons .here rfl (.cons .here rfl (.cons .here rfl .nil)))) (.cons .here rfl (.cons .here rfl (.cons .here rfl (.cons .here rfl .nil)))) rfl ?_)
    refine zA 5 ?_
    refine Ab4 rfl (Ai0 rfl rfl (fun w => An3 _ w) BU6) rfl rfl rfl (fun w hm => Bq3 _ (by omega) (by omega) (shownS t) bd.1 bd.2.1 bd.2.2 w) (Aa0 (.cons .here rfl (.cons .here rfl (.cons .here rfl (.cons .here rfl .nil)))) (.cons .here rfl (.cons .here rfl (.cons .here rfl (.cons .here rfl .nil)))) rfl ?_)
    refine zA 6 ?_
    refine Ac8 rfl (New.buildSlice (parts := [(0, .tmp 29)]) rfl Aw8 Ae3 rfl rfl rfl rfl) rfl rfl rfl (fun b30 => (Aa0 (.cons .here rfl (.cons .here rfl (.cons .here rfl (.cons .here rfl (.cons .here rfl .nil))))) (.cons (.there .here) rfl (.cons (.there .here) rfl (.cons (.there .here) rfl (.cons (.there .here) rfl .nil)))) rfl ?_))
    refine zA 7 ?_
    refine Ab4 rfl (zF rfl Av6) rfl rfl rfl (fun w hm => Af7 (_, _) [(_, _)] _ _ _ _ w (Sl.one (hm.at (.head _)) rfl) (by simp)) (Aa0 (.cons .here rfl (.cons .here rfl (.cons .here rfl (.cons .here rfl (.cons .here rfl .nil))))) (.cons .here rfl (.cons .here rfl (.cons .here rfl (.cons .here rfl (.cons .here rfl .nil))))) rfl ?_)
    refine zw 8 ?_
    refine zw 9 ?_
    refine zt ?_
    refine zB 10 ?_
    refine Ab9 rfl (Sto.store rfl rfl (.there (.there .here)) Ah6 rfl rfl) rfl rfl (Ab1 ?_)
    refine zp 11 ?_
    refine zd ?_
    refine su ?_
    exact Aa7 (.r2 rfl (.agg rfl (.tail _ (.tail _ (.head _))) Ah6 rfl) (.tmp rfl)) (by have e : stillS p t w0 = (nar w0 (powersS p t (shownS t)), isB (nar w0 (powersS p t (shownS t)))) := (by simp [stillS, c0'.1, c0'.2]); rw [e]; simp only [powersS, h0, if_false]; rfl)
end Go.Proofs.YthbiaipagceokaaGreat
namespace Go.Proofs.YthbiaipagceokaaGreat
open Go Go.Eng Go.Pw1

def misf (k : Int) : Value := .iface 106 (.agg #[.int .i64 k])
theorem As4 (b : Bool) (e : Int) (W : World) : Calls Tryz.prog 24 #[.bool b, .int .i64 e] W (Try misf (needX b e) W) := by
  refine Aa2 Tryz.func24 rfl rfl ?_
  refine st ?_
  refine cn rfl ?_ ?_
  ·intro c0'
   refine st ?_
   refine lv (Val.build (parts := [(0, .tmp 6)]) rfl Bi2 Bp5 rfl) ?_
   refine lv (Val.makeInterface rfl Bk2) ?_
   refine AH3 rfl ?_
   exact AC0 (k := e) (by simp [needX, show b = false by simpa using c0'])
  intro c0'
  refine st ?_
  exact Bc8 (.r0 rfl) (by simp [needX, show b = true by simpa using c0'])

theorem AM3 (f : Th → Bool) (l : List Th) (q : Option Addr) (b o cap : Nat) (fn : FuncId) (cp : List Value) (W : World) (hS : Sl W q b o 9 (l.map Th.cells)) (hl : l.length ≤ 100000000000) (he : Enters Tryz.prog fn)
    (hf : ∀ t ∈ l, ∀ w, Mem W [] [] w → Calls Tryz.prog fn ([t.v] ++ cp).toArray w (Pure (.bool (f t)) w)) :
    Calls Tryz.prog 116 #[.slice q l.length cap, .func (.func fn) #[] cp.toArray] W (Pure (.int .i64 (idxF f l)) W) := by
  refine Aa2 Tryz.func116 rfl rfl ?_
  refine su ?_
  refine Af5 (l.length) (fun k q => (8, .int .i64 (k : Int)) :: q) (fun _ => _) (fun _ => []) (fun k => (l.take k).any f = false) (by simp) rfl (zE 8 rfl rfl (zS 0 rfl (zS 1 rfl (zS 7 rfl (Sub.nil _))))) .nil ?_
  intro k kN kI
  refine st ?_
  refine cn rfl ?_ ?_
  ·intro c0'
   have hk : k < l.length := by omega
   refine st ?_
   refine lv (Ab0 rfl rfl Aw7 (by omega) (by omega) (hS.ptrM hk)) ?_
   refine lv (Ab8 rfl (fun w hm => hS.loadM (by decide) hm (by simp) Av7 hk)) ?_
   refine Ab3 (Ad1 rfl rfl he) rfl rfl rfl (fun w hm => hf _ (List.getElem_mem hk) w hm.drop) ?_
   refine st ?_
   refine cn rfl ?_ ?_
   ·intro c1'
    refine su ?_
    exact Aa7 (.r1 rfl (.tmp rfl)) (by rw [Ai1 f l k hk kI c1'])
   intro c1'
   refine st ?_
   refine lv (Val.add rfl rfl (IntWalk.i64_in _ ⟨by omega, by omega⟩)) ?_
   exact Ae4 (by omega) (Ah2 hk kI c1') rfl (zE 8 rfl rfl (zS 0 rfl (zS 1 rfl (zS 7 rfl (Sub.nil _))))) .nil
  intro c0'
  obtain rfl : k = l.length := by omega
  rw [List.take_length] at kI
  refine RunC.exit ?_
  refine su ?_
  refine Ab2 ?_
  refine su ?_
  exact Aa7 (.r1 rfl (.tmp rfl)) (by rw [Ag9 f l kI])
theorem AE5 (f : Th → Bool) (l : List Th) (q : Option Addr) (b o cap : Nat) (fn : FuncId) (cp : List Value) (W : World) (hS : Sl W q b o 9 (l.map Th.cells)) (hl : l.length ≤ 100000000000) (he : Enters Tryz.prog fn)
    (hf : ∀ t ∈ l, ∀ w, Mem W [] [] w → Calls Tryz.prog fn ([t.v] ++ cp).toArray w (Pure (.bool (f t)) w)) :
    Calls Tryz.prog 89 #[.slice q l.length cap, .func (.func fn) #[] cp.toArray] W (Pure (.bool (l.any f)) W) := by
  refine Aa2 Tryz.func89 rfl rfl ?_
  refine st ?_
  refine zc (zF rfl BW1) (fun w hm => AM3 f l q b o cap fn cp w (hS.mono (by decide) hm (by simp)) hl he (fun t ht w2 hm2 => hf t ht w2 ((hm.drop).pass hm2))) ?_
  exact Aa7 (.r1 rfl (.tmp rfl)) (by rw [← Ai7])
theorem AZ9 (p : Pr) (q : Option Addr) (b o cap : Nat) (W : World) (hS : Sl W q b o 9 (p.things.map Th.cells)) (hl : p.things.length ≤ 100000000000) :
    Calls Tryz.prog 57 #[p.v q cap] W (Pure (.bool (isPair p)) W) := by
  refine Aa2 Tryz.func57 rfl rfl ?_
  refine st ?_
  refine zn (New.box rfl) (fun b1 => ?_)
  refine zn (New.alloc BR1) (fun b3 => ?_)
  refine Aa9 (Sto.store rfl rfl .here BF6 rfl rfl) rfl rfl ?_
  refine su ?_
  refine zc (zF rfl Bk9) (fun w hm => Aq9 ⟨_, _⟩ _ _ w) ?_
  refine Ac3 (dj := 10) (dp := 14) 4 rfl (fun g10 => by
    have g10' := g10
    try simp only [nH] at g10'
    refine su ?_
    refine Ab3 (zF rfl Bk9) rfl rfl rfl (fun w hm => Aq9 ⟨_, _⟩ _ _ w) ?_
    refine sv ?_
    exact zs g10
  ) (fun g10 => by
    have g10' := g10
    try simp only [nH] at g10'
    iterate 3 refine Ac6 rfl rfl rfl ?_
    refine sv ?_
    exact zs g10
  ) ?_
  refine st ?_
  refine Ac3 (dj := 15) (dp := 19) 4 rfl (fun g15 => by
    have g15' := g15
    try simp only [nH] at g15'
    refine su ?_
    refine Ab3 (zF rfl AQ3) rfl rfl rfl (fun w hm => Ak6 _ _ _ w) ?_
    refine sv ?_
    exact zs g15
  ) (fun g15 => by
    have g15' := g15
    try simp only [nH] at g15'
    iterate 3 refine Ac6 rfl rfl rfl ?_
    refine sv ?_
    exact zs g15
  ) ?_
  refine st ?_
  refine Ac3 (dj := 21) (dp := 25) 4 rfl (fun g21 => by
    have g21' := g21
    try simp only [nH] at g21'
    refine su ?_
    refine Ab3 (zF rfl AQ3) rfl rfl rfl (fun w hm => Ak6 _ _ _ w) ?_
    refine sv ?_
    exact zs g21
  ) (fun g21 => by
    have g21' := g21
    try simp only [nH] at g21'
    iterate 3 refine Ac6 rfl rfl rfl ?_
    refine sv ?_
    exact zs g21
  ) ?_
  refine st ?_
  refine Ac3 (dj := 26) (dp := 32) 6 rfl (fun g26 => by
    have g26' := g26
    try simp only [nH] at g26'
    refine su ?_
    refine Ab3 (zF rfl AQ3) rfl rfl rfl (fun w hm => Ak6 _ _ _ w) ?_
    refine sv ?_
    exact zs g26
  ) (fun g26 => by
    have g26' := g26
    try simp only [nH] at g26'
    iterate 5 refine Ac6 rfl rfl rfl ?_
    refine sv ?_
    exact zs g26
  ) ?_
  refine st ?_
  refine Ac3 (dj := 33) (dp := 38) 5 rfl (fun g33 => by
    have g33' := g33
    try simp only [nH] at g33'
    refine lv (Val.fieldAddr rfl Ar0) ?_
    refine lv (Aa3 rfl (.tail _ (.head _)) AJ8 rfl) ?_
    refine Aa1 (Ag7 rfl Aw7) rfl rfl rfl ?_
    refine sv ?_
    exact zs g33
  ) (fun g33 => by
    have g33' := g33
    try simp only [nH] at g33'
    iterate 4 refine Ac6 rfl rfl rfl ?_
    refine sv ?_
    exact zs g33
  ) ?_
  refine st ?_
  refine Ac3 (dj := 39) (dp := 45) 6 rfl (fun g39 => by
    have g39' := g39
    try simp only [nH] at g39'
    refine su ?_
    refine Ab3 (zF rfl Ca7) rfl rfl rfl (fun w hm => AE5 (bad p) p.things q b o cap 88 [_, _] w (hS.mono (by decide) hm (by simp)) hl Ca8 (fun t ht w2 hm2 => BD0 p q cap t _ _ w2 (hm2.old_at (hm.at (.head _)) (by simp)) (hm2.old_at (hm.at (.tail _ (.head _))) (by simp)))) ?_
    refine sv ?_
    exact zs g39
  ) (fun g39 => by
    have g39' := g39
    try simp only [nH] at g39'
    iterate 5 refine Ac6 rfl rfl rfl ?_
    refine sv ?_
    exact zs g39
  ) ?_
  refine su ?_
  exact Aa7 (.r1 rfl (.tmp rfl)) (by first | rfl | simp)
theorem Ay2 (p : Pr) (q : Option Addr) (b o cap : Nat) (l : List Int) (q2 : Option Addr) (b2 o2 cap2 : Nat) (W : World) (hS : Sl W q b o 9 (p.things.map Th.cells)) (hl : p.things.length ≤ 100000000000) (hL : Sl W q2 b2 o2 1 (l.map fun n => [.int .i64 n])) (hl2 : l.length ≤ 100000) :
    Calls Tryz.prog 35 #[p.v q cap, .slice q2 l.length cap2] W (TryN misf (openX p l) (fun _ b => .pointer (some ⟨b, 0, none⟩)) (fun _ b => [(b, .cells (vwCells p q cap (0, 0)).toArray 71 (0, 0))]) W) := by
  refine Aa2 Tryz.func35 rfl rfl ?_
  refine st ?_
  refine zn (New.box rfl) (fun b2 => ?_)
  refine zc (zF rfl Cc3) (fun w hm => AZ9 p q b o cap w (hS.mono (by decide) hm (by simp)) hl) ?_
  refine Am1 (zF rfl Ba7) rfl rfl rfl (fun w hm => As4 _ _ w) (fun e9 he9 => ?_) (fun v9 hv9 => ?_)
  ·obtain ⟨er9, rfl⟩ := Ah0 he9
   refine Ab6 ?_
   exact Ar4 (by simp [openX, er9])
  obtain ⟨ok9, rfl⟩ := Ai5 hv9
  refine su ?_
  refine Af5 (l.length) (fun k q => (12, .int .i64 (k : Int)) :: q) (fun _ => _) (fun _ => []) (fun k => (l.take k).any (fun n => !within n 0 ((p.things.length : Int) - 1)) = false) (by simp) rfl (zE 12 rfl rfl (zS 2 rfl (zS 4 rfl (zS 10 rfl (zS 11 rfl (Sub.nil _)))))) (.cons .here rfl .nil) ?_
  intro k kN kI
  refine st ?_
  refine cn rfl ?_ ?_
  ·intro c0'
   have hk : k < l.length := by omega
   refine st ?_
   refine lv (Ab0 rfl rfl Am6 (by omega) (by omega) (hL.ptrM hk)) ?_
   refine lu (Ab8 rfl (fun w hm => hL.loadM1 (by decide) hm (by simp) Ag0 hk (v := .int .i64 l[k]) rfl)) ?_
   refine lv (Af3 rfl rfl (IntWalk.i64_in _ ⟨by omega, by omega⟩)) ?_
   refine zc (zF rfl AQ3) (fun w hm => Ak6 _ _ _ w) ?_
   refine Am1 (zF rfl Ba7) rfl rfl rfl (fun w hm => As4 _ _ w) (fun e22 he22 => ?_) (fun v22 hv22 => ?_)
   ·obtain ⟨er22, rfl⟩ := Ah0 he22
    refine Ae9 ?_
    refine Ab6 ?_
    refine Ab6 ?_
    refine Ae9 ?_
    refine Ab6 ?_
    exact Ar4 (by simp [openX, ok9, Ap7 hk (f := fun n => !within n 0 ((p.things.length : Int) - 1)) (by simp [er22])])
   obtain ⟨ok22, rfl⟩ := Ai5 hv22
   refine st ?_
   refine lv (Val.add rfl rfl (IntWalk.i64_in _ ⟨by omega, by omega⟩)) ?_
   exact Ae4 (by omega) (Ah2 hk kI (by simp [ok22])) rfl (zE 12 rfl rfl (zS 2 rfl (zS 4 rfl (zS 10 rfl (zS 11 rfl (Sub.nil _)))))) (.cons .here rfl .nil)
  intro c0'
  obtain rfl : k = l.length := by omega
  rw [List.take_length] at kI
  refine RunC.exit ?_
  refine su ?_
  refine Ab2 ?_
  refine su ?_
  refine lv (Val.build (parts := [(0, .tmp 24)]) rfl BQ9 Bv8 rfl) ?_
  refine zn (New.box rfl) (fun b26 => ?_)
  exact AR6 (a := ()) b26 (.r1 rfl (.tmp rfl)) (by simp [openX, ok9, kI]) rfl (.cons .here rfl .nil)
end Go.Proofs.YthbiaipagceokaaGreat
namespace Go.Proofs.YthbiaipagceokaaGreat
open Go Go.Eng
theorem BW5 : Enters Tryz.prog 101 := Aa6 Tryz.func101 (by kernel_rfl) rfl
theorem BB5 : Enters Tryz.prog 46 := Aa6 Tryz.func46 (by kernel_rfl) rfl
theorem BP4 : Enters Tryz.prog 47 := Aa6 Tryz.func47 (by kernel_rfl) rfl
theorem BP3 : Enters Tryz.prog 48 := Aa6 Tryz.func48 (by kernel_rfl) rfl
theorem BO8 : Enters Tryz.prog 71 := Aa6 Tryz.func71 (by kernel_rfl) rfl
theorem BO7 : Enters Tryz.prog 72 := Aa6 Tryz.func72 (by kernel_rfl) rfl
theorem BO6 : Enters Tryz.prog 73 := Aa6 Tryz.func73 (by kernel_rfl) rfl
theorem Cb4 : Enters Tryz.prog 74 := Aa6 Tryz.func74 (by kernel_rfl) rfl
theorem BA1 : fieldB Tryz.prog 115 0 = some 0 := by kernel_rfl
instance : Fld Tryz.prog 115 0 0 := ⟨BA1⟩
theorem Ba3 : fieldB Tryz.prog 120 0 = some 0 := by kernel_rfl
instance : Fld Tryz.prog 120 0 0 := ⟨Ba3⟩
theorem BA0 : fieldB Tryz.prog 120 2 = some 2 := by kernel_rfl
instance : Fld Tryz.prog 120 2 2 := ⟨BA0⟩
theorem Aj9 : fieldB Tryz.prog 39 0 = some 0 := by kernel_rfl
instance : Fld Tryz.prog 39 0 0 := ⟨Aj9⟩
theorem Ay7 : fieldB Tryz.prog 39 1 = some 1 := by kernel_rfl
instance : Fld Tryz.prog 39 1 1 := ⟨Ay7⟩
theorem Au9 : fieldB Tryz.prog 43 0 = some 0 := by kernel_rfl
instance : Fld Tryz.prog 43 0 0 := ⟨Au9⟩
theorem Au8 : fieldB Tryz.prog 43 1 = some 1 := by kernel_rfl
instance : Fld Tryz.prog 43 1 1 := ⟨Au8⟩
theorem BK0 : fieldB Tryz.prog 43 2 = some 2 := by kernel_rfl
instance : Fld Tryz.prog 43 2 2 := ⟨BK0⟩
theorem BJ9 : fieldB Tryz.prog 43 3 = some 4 := by kernel_rfl
instance : Fld Tryz.prog 43 3 4 := ⟨BJ9⟩
theorem BJ0 : fieldB Tryz.prog 82 0 = some 0 := by kernel_rfl
instance : Fld Tryz.prog 82 0 0 := ⟨BJ0⟩
theorem Au6 : fieldB Tryz.prog 87 0 = some 0 := by kernel_rfl
instance : Fld Tryz.prog 87 0 0 := ⟨Au6⟩
theorem Bk1 : (Tryz.prog.underlying 115).any (fun t => match t with | .interface _ => false | _ => true) = true := by kernel_rfl
theorem Bp4 : placesB Tryz.prog 115 = some [(0, 1)] := by kernel_rfl
theorem AX9 : placesB Tryz.prog 82 = some [(0, 1)] := by kernel_rfl
theorem Bv7 : placesB Tryz.prog 83 = some [(0, 1), (1, 1)] := by kernel_rfl
theorem Aq7 : slB Tryz.prog 118 = some (120, 3) := by kernel_rfl
instance : Slc Tryz.prog 118 120 3 := ⟨Aq7⟩
theorem AO7 : slB Tryz.prog 37 = some (43, 6) := by kernel_rfl
instance : Slc Tryz.prog 37 43 6 := ⟨AO7⟩
theorem BM9 : tyB Tryz.prog 115 = some (true, 1) := by kernel_rfl
instance : Tyc Tryz.prog 115 true 1 := ⟨BM9⟩
theorem Az8 : tyB Tryz.prog 120 = some (true, 3) := by kernel_rfl
instance : Tyc Tryz.prog 120 true 3 := ⟨Az8⟩
theorem Bd5 : tyB Tryz.prog 37 = some (false, 1) := by kernel_rfl
instance : Tyc Tryz.prog 37 false 1 := ⟨Bd5⟩
theorem AS6 : tyB Tryz.prog 43 = some (true, 6) := by kernel_rfl
instance : Tyc Tryz.prog 43 true 6 := ⟨AS6⟩
theorem BF7 : tyB Tryz.prog 44 = some (false, 1) := by kernel_rfl
instance : Tyc Tryz.prog 44 false 1 := ⟨BF7⟩
theorem Ce2 : tyB Tryz.prog 80 = some (false, 1) := by kernel_rfl
instance : Tyc Tryz.prog 80 false 1 := ⟨Ce2⟩
theorem Bt5 : tyB Tryz.prog 83 = some (true, 2) := by kernel_rfl
instance : Tyc Tryz.prog 83 true 2 := ⟨Bt5⟩
theorem Bi1 : zeroB Tryz.prog 115 = some [.int .i64 0] := by kernel_rfl
theorem Al4 : zeroB Tryz.prog 120 = some [.int .i64 0, .int .i64 0, .bool false] := by kernel_rfl
theorem BF2 : zeroB Tryz.prog 139 = some [.nilFunc] := by kernel_rfl
theorem BR2 : zeroB Tryz.prog 44 = some [.nilFunc] := by kernel_rfl
theorem AF7 : zeroB Tryz.prog 82 = some [.nilFunc] := by kernel_rfl
theorem AS1 : zeroB Tryz.prog 83 = some [.nilFunc, .nilFunc] := by kernel_rfl
end Go.Proofs.YthbiaipagceokaaGreat
namespace Go.Ct
open Go Go.Eng Go.Pw1
/-- How a chart lies that is looked at. -/
structure FrOk (W : World) (c : Ch) (m : Nat) (es : List (Int × Value)) : Prop where
  map : W.heap[m]? = some (mapO es)
  at' : ∀ k : Int, ∃ q b o cap, (mFind es k).getD (.slice none 0 0) = .slice q (lks c k).length cap ∧ Sl W q b o 3 ((lks c k).map Lk.cells)
theorem FrOk.mono0 {W w : World} {c : Ch} {m : Nat} {es : List (Int × Value)} {news : Blks} (h : FrOk W c m es) (hm : Mem W [] news w) : FrOk w c m es :=
  ⟨hm.old_at h.map (by simp), fun k => by obtain ⟨q, b, o, cap, h1, h2⟩ := h.at' k; exact ⟨q, b, o, cap, h1, h2.mono (by decide) hm (by simp)⟩⟩
def sumL (f : Lk → Int) (l : List Lk) (k : Nat) : Int := ((l.take k).map f).sum
theorem BN1 {f : Lk → Int} {l : List Lk} {k : Nat} (hk : k < l.length) : sumL f l (k + 1) = sumL f l k + f l[k] := by
  unfold sumL
  rw [List.take_succ_eq_append_getElem hk, List.map_append, List.sum_append]
  simp
end Go.Ct
namespace Go.Proofs.YthbiaipagceokaaGreat
open Go Go.Eng Go.Ct Go.RowKit
open Go.Pw1 (Ai5 Ah0 needX within idxF Ah2 Ai1 Ag9 Ai7)
abbrev pV (b : Nat) : Value := .pointer (some ⟨b, 0, none⟩)
def cmisf (k : Int) : Value := .iface 115 (.agg #[.int .i64 k])
theorem Av4 (b : Bool) (e : Int) (W : World) : Calls Tryz.prog 44 #[.bool b, .int .i64 e] W (Try cmisf (needX b e) W) := by
  refine Aa2 Tryz.func44 rfl rfl ?_
  refine st ?_
  refine cn rfl ?_ ?_
  ·intro c0'
   refine st ?_
   refine lv (Val.build (parts := [(0, .tmp 6)]) rfl Bi1 Bp4 rfl) ?_
   refine lv (Val.makeInterface rfl Bk1) ?_
   refine AH3 rfl ?_
   exact AC0 (k := e) (by simp [needX, show b = false by simpa using c0'])
  intro c0'
  refine st ?_
  exact Bc8 (.r0 rfl) (by simp [needX, show b = true by simpa using c0'])
theorem Av2 (n lo hi : Int) (W : World) : Calls Tryz.prog 46 #[.int .i64 n, .int .i64 lo, .int .i64 hi] W (Pure (.bool (within n lo hi)) W) := by
  refine Aa2 Tryz.func46 rfl rfl ?_
  refine st ?_
  refine Ac3 (dj := 10) (dp := 14) 4 rfl (fun g10 => by
    have g10' := g10
    try simp only [nH] at g10'
    refine sv ?_
    exact zs g10
  ) (fun g10 => by
    have g10' := g10
    try simp only [nH] at g10'
    iterate 3 refine Ac6 rfl rfl rfl ?_
    refine sv ?_
    exact zs g10
  ) ?_
  refine su ?_
  exact Aa7 (.r1 rfl (.tmp rfl)) (by first | rfl | simp)
abbrev axF (nx : Bool) : Nat := if nx then 48 else 47
abbrev axV (nx : Bool) : Value := .agg #[.func (.func (axF nx)) #[] #[]]
theorem BD3 (s : Sg) (W : World) : Calls Tryz.prog 47 #[s.v] W (Pure (Pw1.Sp.v s.e) W) := by
  refine Aa2 Tryz.func47 rfl rfl ?_
  refine st ?_
  refine zn (New.box rfl) (fun b1 => ?_)
  refine zn (New.alloc Ac7) (fun b2 => ?_)
  refine Aa9 (Sto.store rfl rfl .here Ad7 rfl rfl) rfl rfl ?_
  refine su ?_
  exact Aa7 (.r1 rfl (.agg rfl (.head _) Ad7 rfl)) (by first | rfl | simp)
theorem BD2 (s : Sg) (W : World) : Calls Tryz.prog 48 #[s.v] W (Pure (Pw1.Sp.v s.n) W) := by
  refine Aa2 Tryz.func48 rfl rfl ?_
  refine st ?_
  refine zn (New.box rfl) (fun b1 => ?_)
  refine zn (New.alloc Ac7) (fun b2 => ?_)
  refine Aa9 (Sto.store rfl rfl .here Ad7 rfl rfl) rfl rfl ?_
  refine su ?_
  exact Aa7 (.r1 rfl (.agg rfl (.head _) Ad7 rfl)) (by first | rfl | simp)
-- BP4
-- BP3
theorem BQ5 (nx : Bool) : Enters Tryz.prog (axF nx) := by
  cases nx
  · exact BP4
  · exact BP3
theorem Bn1 (nx : Bool) (s : Sg) (W : World) : Calls Tryz.prog (axF nx) #[s.v] W (Pure (Pw1.Sp.v (axS nx s)) W) := by
  cases nx
  · exact BD3 s W
  · exact BD2 s W
theorem Az2 (W : World) : Calls Tryz.prog 31 #[] W (Pure (.agg #[.func (.func 47) #[] #[], .func (.func 48) #[] #[]]) W) := by
  refine Aa2 Tryz.func31 rfl rfl ?_
  refine st ?_
  refine zn (New.alloc AS1) (fun b0 => ?_)
  refine lv (Val.build (parts := [(0, .func 47)]) rfl AF7 AX9 rfl) ?_
  refine lv (Val.build (parts := [(0, .func 48)]) rfl AF7 AX9 rfl) ?_
  refine lv (Val.build (parts := [(0, .tmp 1), (1, .tmp 2)]) rfl AS1 Bv7 rfl) ?_
  refine Aa9 (Sto.store rfl rfl .here Bt5 rfl rfl) rfl rfl ?_
  refine su ?_
  exact Aa7 (.r1 rfl (.agg rfl (.head _) Bt5 rfl)) (by first | rfl | simp)
/-! ## What is valid -/
theorem AH2 (s : Pw1.Sp) (W : World) : Calls Tryz.prog 71 #[Pw1.Sp.v s] W (Pure (.bool (reachS s)) W) := by
  refine Aa2 Tryz.func71 rfl rfl ?_
  refine st ?_
  refine zn (New.box rfl) (fun b1 => ?_)
  refine Ac3 (dj := 6) (dp := 12) 6 rfl (fun g6 => by
    have g6' := g6
    try simp only [nH] at g6'
    refine lv (Val.fieldAddr rfl Aj3) ?_
    refine lv (Aa3 rfl (.head _) Ag0 rfl) ?_
    refine lv (Val.fieldAddr rfl Ah5) ?_
    refine Aa1 (Aa3 rfl (.head _) Ag0 rfl) rfl rfl rfl ?_
    refine sv ?_
    exact zs g6
  ) (fun g6 => by
    have g6' := g6
    try simp only [nH] at g6'
    iterate 5 refine Ac6 rfl rfl rfl ?_
    refine sv ?_
    exact zs g6
  ) ?_
  refine st ?_
  refine Ac3 (dj := 13) (dp := 17) 4 rfl (fun g13 => by
    have g13' := g13
    try simp only [nH] at g13'
    refine lv (Val.fieldAddr rfl Ah5) ?_
    refine Aa1 (Aa3 rfl (.head _) Ag0 rfl) rfl rfl rfl ?_
    refine sv ?_
    exact zs g13
  ) (fun g13 => by
    have g13' := g13
    try simp only [nH] at g13'
    iterate 3 refine Ac6 rfl rfl rfl ?_
    refine sv ?_
    exact zs g13
  ) ?_
  refine su ?_
  exact Aa7 (.r1 rfl (.tmp rfl)) (by first | rfl | simp)
theorem AQ6 (c : ChA) (b : Nat) (n : Int) (hc : within c.st 1 8 = true) (W : World) (hb : W.heap[b]? = some (.cells c.cells.toArray 39 (0, 0))) : Calls Tryz.prog 72 #[.int .i64 n, pV b] W (Pure (.bool (within n 0 (c.st - 1))) W) := by
  simp only [within, Bool.and_eq_true, decide_eq_true_eq] at hc
  refine Aa2 Tryz.func72 rfl rfl ?_
  refine su ?_
  refine lv (Aa4 rfl hb (by simp) Ag0 rfl) ?_
  refine lv (Af3 rfl rfl (IntWalk.i64_in _ ⟨by omega, by omega⟩)) ?_
  refine zc (zF rfl BB5) (fun w hm => Av2 _ _ _ w) ?_
  exact Aa7 (.r1 rfl (.tmp rfl)) (by first | rfl | simp)
theorem Br4 (c : ChA) (b x4 x3 : Nat) (s : Sg) (hc : within c.st 1 8 = true) (W : World) (hb : W.heap[b]? = some (.cells c.cells.toArray 39 (0, 0))) (h4 : W.heap[x4]? = some (.cells [.func (.func 72) #[] #[pV b]].toArray 44 (0, 0)))
    (h3 : W.heap[x3]? = some (.cells [.func (.func 71) #[] #[]].toArray 139 (0, 0))) : Calls Tryz.prog 73 #[s.v, pV x4, pV x3] W (Pure (.bool (badS c.pl s)) W) := by
  refine Aa2 Tryz.func73 rfl rfl ?_
  refine st ?_
  refine zn (New.box rfl) (fun b3 => ?_)
  refine lu (Aa4 rfl h4 (by simp) BF7 rfl) ?_
  refine Ab3 (Ad1 rfl rfl BO7) rfl rfl rfl (fun w hm => AQ6 c b _ hc w (hm.old_at hb (by simp))) ?_
  refine st ?_
  refine Ad3 (dj := 10) (dp := 16) 6 rfl (fun g10 => by
    have g10' := g10
    try simp only [nH] at g10'
    refine lu (Aa4 rfl h4 (by simp) BF7 rfl) ?_
    refine Ab3 (Ad1 rfl rfl BO7) rfl rfl rfl (fun w hm => AQ6 c b _ hc w (hm.old_at hb (by simp))) ?_
    refine sv ?_
    exact zs g10
  ) (fun g10 => by
    have g10' := g10
    try simp only [nH] at g10'
    iterate 5 refine Ac6 rfl rfl rfl ?_
    refine sv ?_
    exact zs g10
  ) ?_
  refine st ?_
  refine Ad3 (dj := 17) (dp := 23) 6 rfl (fun g17 => by
    have g17' := g17
    try simp only [nH] at g17'
    refine lv (Val.fieldAddr rfl Au9) ?_
    refine lv (Aa3 rfl (.head _) Ag0 rfl) ?_
    refine lv (Val.fieldAddr rfl Au8) ?_
    refine Aa1 (Aa3 rfl (.head _) Ag0 rfl) rfl rfl rfl ?_
    refine sv ?_
    exact zs g17
  ) (fun g17 => by
    have g17' := g17
    try simp only [nH] at g17'
    iterate 5 refine Ac6 rfl rfl rfl ?_
    refine sv ?_
    exact zs g17
  ) ?_
  refine st ?_
  refine Ad3 (dj := 24) (dp := 30) 6 rfl (fun g24 => by
    have g24' := g24
    try simp only [nH] at g24'
    refine lu (Aa4 rfl h3 (by simp) AW4 rfl) ?_
    refine Ab3 (Ad1 rfl rfl BO8) rfl rfl rfl (fun w hm => AH2 ⟨_, _⟩ w) ?_
    refine sv ?_
    exact zs g24
  ) (fun g24 => by
    have g24' := g24
    try simp only [nH] at g24'
    iterate 5 refine Ac6 rfl rfl rfl ?_
    refine sv ?_
    exact zs g24
  ) ?_
  refine st ?_
  refine Ad3 (dj := 31) (dp := 37) 6 rfl (fun g31 => by
    have g31' := g31
    try simp only [nH] at g31'
    refine lu (Aa4 rfl h3 (by simp) AW4 rfl) ?_
    refine Ab3 (Ad1 rfl rfl BO8) rfl rfl rfl (fun w hm => AH2 ⟨_, _⟩ w) ?_
    refine sv ?_
    exact zs g31
  ) (fun g31 => by
    have g31' := g31
    try simp only [nH] at g31'
    iterate 5 refine Ac6 rfl rfl rfl ?_
    refine sv ?_
    exact zs g31
  ) ?_
  refine su ?_
  exact Aa7 (.r1 rfl (.tmp rfl)) (by simp [badS]; rfl)
theorem Bf4 (f : Sg → Bool) (l : List Sg) (q : Option Addr) (b o cap : Nat) (fn : FuncId) (cp : List Value) (W : World) (hS : Sl W q b o 6 (l.map Sg.cells)) (hl : l.length ≤ 100000000000) (he : Enters Tryz.prog fn)
    (hf : ∀ t ∈ l, ∀ w, Mem W [] [] w → Calls Tryz.prog fn ([t.v] ++ cp).toArray w (Pure (.bool (f t)) w)) :
    Calls Tryz.prog 101 #[.slice q l.length cap, .func (.func fn) #[] cp.toArray] W (Pure (.int .i64 (idxF f l)) W) := by
  refine Aa2 Tryz.func101 rfl rfl ?_
  refine su ?_
  refine Af5 (l.length) (fun k q => (8, .int .i64 (k : Int)) :: q) (fun _ => _) (fun _ => []) (fun k => (l.take k).any f = false) (by simp) rfl (zE 8 rfl rfl (zS 0 rfl (zS 1 rfl (zS 7 rfl (Sub.nil _))))) .nil ?_
  intro k kN kI
  refine st ?_
  refine cn rfl ?_ ?_
  ·intro c0'
   have hk : k < l.length := by omega
   refine st ?_
   refine lv (Ab0 rfl rfl AO7 (by omega) (by omega) (hS.ptrM hk)) ?_
   refine lv (Ab8 rfl (fun w hm => hS.loadM (by decide) hm (by simp) AS6 hk)) ?_
   refine Ab3 (Ad1 rfl rfl he) rfl rfl rfl (fun w hm => hf _ (List.getElem_mem hk) w hm.drop) ?_
   refine st ?_
   refine cn rfl ?_ ?_
   ·intro c1'
    refine su ?_
    exact Aa7 (.r1 rfl (.tmp rfl)) (by rw [Ai1 f l k hk kI c1'])
   intro c1'
   refine st ?_
   refine lv (Val.add rfl rfl (IntWalk.i64_in _ ⟨by omega, by omega⟩)) ?_
   exact Ae4 (by omega) (Ah2 hk kI c1') rfl (zE 8 rfl rfl (zS 0 rfl (zS 1 rfl (zS 7 rfl (Sub.nil _))))) .nil
  intro c0'
  obtain rfl : k = l.length := by omega
  rw [List.take_length] at kI
  refine RunC.exit ?_
  refine su ?_
  refine Ab2 ?_
  refine su ?_
  exact Aa7 (.r1 rfl (.tmp rfl)) (by rw [Ag9 f l kI])
theorem Bh0 (f : Sg → Bool) (l : List Sg) (q : Option Addr) (b o cap : Nat) (fn : FuncId) (cp : List Value) (W : World) (hS : Sl W q b o 6 (l.map Sg.cells)) (hl : l.length ≤ 100000000000) (he : Enters Tryz.prog fn)
    (hf : ∀ t ∈ l, ∀ w, Mem W [] [] w → Calls Tryz.prog fn ([t.v] ++ cp).toArray w (Pure (.bool (f t)) w)) :
    Calls Tryz.prog 74 #[.slice q l.length cap, .func (.func fn) #[] cp.toArray] W (Pure (.bool (l.any f)) W) := by
  refine Aa2 Tryz.func74 rfl rfl ?_
  refine st ?_
  refine zc (zF rfl BW5) (fun w hm => Bf4 f l q b o cap fn cp w (hS.mono (by decide) hm (by simp)) hl he (fun t ht w2 hm2 => hf t ht w2 ((hm.drop).pass hm2))) ?_
  exact Aa7 (.r1 rfl (.tmp rfl)) (by rw [← Ai7])
theorem AT8 (c : ChA) (hl : c.sg.l.length ≤ 100000000000) (W : World) (hS : c.Ok W) : Calls Tryz.prog 45 #[c.v] W (Pure (.bool (chartV c.pl)) W) := by
  refine Aa2 Tryz.func45 rfl rfl ?_
  refine st ?_
  refine zn (New.box rfl) (fun b1 => ?_)
  refine zn (New.alloc BF2) (fun b3 => ?_)
  refine Aa9 (Sto.store rfl rfl .here AW4 rfl rfl) rfl rfl ?_
  refine st ?_
  refine zn (New.alloc BR2) (fun b4 => ?_)
  refine Aa9 (Sto.store rfl rfl .here BF7 rfl rfl) rfl rfl ?_
  refine su ?_
  refine zc (zF rfl BB5) (fun w hm => Av2 _ _ _ w) ?_
  refine Ac3 (dj := 11) (dp := 16) 5 rfl (fun g11 => by
    have g11' := g11
    try simp only [nH] at g11'
    refine lv (Val.fieldAddr rfl Ay7) ?_
    refine lv (Aa3 rfl (.tail _ (.tail _ (.head _))) Bd5 rfl) ?_
    refine Aa1 (Ag7 rfl AO7) rfl rfl rfl ?_
    refine sv ?_
    exact zs g11
  ) (fun g11 => by
    have g11' := g11
    try simp only [nH] at g11'
    iterate 4 refine Ac6 rfl rfl rfl ?_
    refine sv ?_
    exact zs g11
  ) ?_
  refine st ?_
  refine Ac3 (dj := 17) (dp := 23) 6 rfl (fun g17 => by
    have g17' := g17
    try simp only [nH] at g17'
    refine su ?_
    refine Ab3 (zF rfl Cb4) rfl rfl rfl (fun w hm => Bh0 (badS c.pl) c.sg.l c.sg.q c.sg.b c.sg.o c.sg.c 73 [_, _] w (hS.mono0 hm) hl BO6 (fun t ht w2 hm2 => Br4 c _ _ _ t (by simp_all) w2 (hm2.old_at (hm.at (.tail _ (.tail _ (.head _)))) (by simp)) (hm2.old_at (hm.at (.head _)) (by simp)) (hm2.old_at (hm.at (.tail _ (.head _))) (by simp)))) ?_
    refine sv ?_
    exact zs g17
  ) (fun g17 => by
    have g17' := g17
    try simp only [nH] at g17'
    iterate 5 refine Ac6 rfl rfl rfl ?_
    refine sv ?_
    exact zs g17
  ) ?_
  refine su ?_
  exact Aa7 (.r1 rfl (.tmp rfl)) (by simp [chartV]; rfl)
-- BO6
/-! ## A look -/
abbrev ctO (c : ChA) (m : Nat) : Obj := .cells [.int .i64 c.st, c.sg.v, .map (some m)].toArray 87 (0, 0)
theorem AF8 (c : ChA) (hc : ChOk c.pl) (bv m : Nat) (l : Lk) (hl : LkOk c.pl l) (nx : Bool) (W : World) (hS : c.Ok W) (hv : W.heap[bv]? = some (ctO c m)) : Calls Tryz.prog 52 #[pV bv, l.v, axV nx] W (Pure (Pw1.Sp.v (spanL c.pl nx l)) W) := by
  have hs := hl.s
  have hs2 : l.s < c.sg.l.length := hs
  obtain ⟨sg, hsg⟩ : ∃ s, c.sg.l[l.s]'hs2 = s := ⟨_, rfl⟩
  have hsd : c.pl.sg.getD l.s zSg = sg := by (rw [List.getD_eq_getElem?_getD, List.getElem?_eq_getElem hs]; exact hsg)
  have hr := AC7 hc nx ⟨hl.s, hl.to⟩
  unfold spanL at hr ⊢
  rw [hsd] at hr ⊢
  obtain ⟨sp, hsp⟩ : ∃ s, axS nx sg = s := ⟨_, rfl⟩
  rw [hsp] at hr ⊢
  obtain ⟨lo, hi⟩ := sp
  have hr2 : -1073741824 ≤ lo ∧ lo ≤ hi ∧ hi ≤ 1073741824 := by (cases hlb : l.back <;> simp [hlb] at hr <;> omega)
  dsimp only
  refine Aa2 Tryz.func52 rfl rfl ?_
  refine st ?_
  refine zn (New.box rfl) (fun b4 => ?_)
  refine zn (New.box rfl) (fun b5 => ?_)
  refine Ad9 (New.alloc Ac7) rfl rfl rfl (fun b6 => ?_)
  refine nnx ?_
  refine RunC.seq ?_
  apply Am2 (J := J1 _ _ _ _ _ _) 13 Al3 (.cons .here rfl (.cons .here rfl (.cons .here rfl .nil)))
  ·refine zw 0 ?_
   refine zw 1 ?_
   refine zw 2 ?_
   refine zw 3 ?_
   refine zw 4 ?_
   refine zw 5 ?_
   refine zv 6 rfl (Aa4 rfl hv (by simp) Bd5 rfl) ?_
   refine zw 7 ?_
   refine zw 8 ?_
   refine zv 9 rfl (Ab0 rfl rfl AO7 (by omega) (by omega) (Sl.ptrM hS hs2)) ?_
   refine zv 10 rfl (Ab8 rfl (fun w hm => Sl.loadX hS (by decide) hm (by simp) AS6 hs2 hsg)) ?_
   refine Ae8 (rs := [11, 12]) (by kernel_rfl) (by simp) (by kernel_rfl) (fun m hm => ?_)
   simp only [List.mem_cons, List.not_mem_nil, or_false] at hm
   rcases hm with rfl | rfl
   ·refine Ab4 rfl (Ad1 rfl rfl (BQ5 nx)) rfl rfl rfl (fun w hm => (by have h9 := Bn1 nx sg w; rw [hsp] at h9; dsimp only [Pw1.Sp.v] at h9; exact h9)) (Aa0 (.cons .here rfl (.cons .here rfl (.cons .here rfl .nil))) (.cons .here rfl (.cons .here rfl (.cons .here rfl .nil))) rfl ?_)
    refine zA 12 ?_
    refine Ac8 rfl (New.alloc Ac7) rfl rfl rfl (fun b7 => (Aa0 (.cons .here rfl (.cons .here rfl (.cons .here rfl (.cons .here rfl .nil)))) (.cons (.there .here) rfl (.cons (.there .here) rfl (.cons (.there .here) rfl .nil))) rfl ?_))
    refine zt ?_
    refine zB 13 ?_
    refine Ab9 rfl (Sto.store rfl rfl .here Ad7 rfl rfl) rfl rfl (Ab1 ?_)
    refine zd ?_
    exact Al0 b7 (Ab5 _) (Pick.refl _)
   refine Ac8 rfl (New.alloc Ac7) rfl rfl rfl (fun b7 => (Aa0 (.cons .here rfl (.cons .here rfl (.cons .here rfl (.cons .here rfl .nil)))) (.cons (.there .here) rfl (.cons (.there .here) rfl (.cons (.there .here) rfl .nil))) rfl ?_))
   refine zA 11 ?_
   refine Ab4 rfl (Ad1 rfl rfl (BQ5 nx)) rfl rfl rfl (fun w hm => (by have h9 := Bn1 nx sg w; rw [hsp] at h9; dsimp only [Pw1.Sp.v] at h9; exact h9)) (Aa0 (.cons .here rfl (.cons .here rfl (.cons .here rfl (.cons .here rfl .nil)))) (.cons .here rfl (.cons .here rfl (.cons .here rfl (.cons .here rfl .nil)))) rfl ?_)
   refine zt ?_
   refine zB 13 ?_
   refine Ab9 rfl (Sto.store rfl rfl .here Ad7 rfl rfl) rfl rfl (Ab1 ?_)
   refine zd ?_
   exact Al0 b7 (zS 7 rfl (zS 19 rfl (zS 18 rfl (zS 17 rfl (zS 16 rfl (zS 15 rfl (zS 14 rfl (zS 13 rfl (zS 12 rfl (zS 11 rfl (zS 10 rfl (zS 9 rfl (zS 8 rfl (Sub.skip rfl (Sub.skip rfl (Sub.skip rfl (Sub.skip rfl (Sub.skip rfl (Sub.skip rfl (Sub.skip rfl (Sub.skip rfl (Sub.skip rfl (Sub.skip rfl (Sub.skip rfl (Sub.skip rfl (Sub.skip rfl (Ab5 _))))))))))))))))))))))))))) (.cons .here rfl (.cons .here rfl (.cons .here rfl (.cons .here rfl .nil))))
  refine J1.out (fun b7 => ?_)
  refine su ?_
  refine cn rfl ?_ ?_
  ·intro c0'
   refine su ?_
   refine lu (Val.neg rfl (IntWalk.i64_in _ ⟨by omega, by omega⟩)) ?_
   refine lv (Val.neg rfl (IntWalk.i64_in _ ⟨by omega, by omega⟩)) ?_
   refine lv (Val.build (parts := [(0, .tmp 24), (1, .tmp 27)]) rfl Ac7 Ah7 rfl) ?_
   refine Aa9 (Sto.store rfl rfl (.there .here) Ad7 rfl rfl) rfl rfl ?_
   refine su ?_
   exact Aa7 (.r1 rfl (.agg rfl (.tail _ (.head _)) Ad7 rfl)) (by simp [Pw1.Sp.v, c0'])
  intro c0'
  refine su ?_
  refine Aa9 (Sto.store rfl rfl (.there .here) Ad7 rfl rfl) rfl rfl ?_
  refine su ?_
  exact Aa7 (.r1 rfl (.agg rfl (.tail _ (.head _)) Ad7 rfl)) (by simp [Pw1.Sp.v, c0'])
/-! ## Sums over a way -/
theorem Ay9 (f : Lk → Int) (l : List Lk) (q : Option Addr) (b o cap : Nat) (fn : FuncId) (cp : List Value) (W : World) (hS : Sl W q b o 3 (l.map Lk.cells)) (hl : l.length ≤ 1000) (he : Enters Tryz.prog fn) (hr : ∀ t ∈ l, -2000000000 ≤ f t ∧ f t ≤ 2000000000)
    (hf : ∀ t ∈ l, ∀ w, Mem W [] [] w → Calls Tryz.prog fn ([t.v] ++ cp).toArray w (Pure (.int .i64 (f t)) w)) :
    Calls Tryz.prog 50 #[.func (.func fn) #[] cp.toArray, .slice q l.length cap] W (Pure (.int .i64 (sumL f l l.length)) W) := by
  have hb : ∀ k, k ≤ l.length → -2000000000 * (k : Int) ≤ sumL f l k ∧ sumL f l k ≤ 2000000000 * (k : Int) := by
    intro k
    induction k with
    | zero => intro _; exact ⟨by simp [sumL], by simp [sumL]⟩
    | succ k ih =>
      intro hk
      have h1 := ih (by omega)
      have h2 := hr _ (List.getElem_mem (show k < l.length by omega))
      rw [BN1 (by omega)]
      omega
  refine Aa2 Tryz.func50 rfl rfl ?_
  refine su ?_
  refine Af5 (l.length) (fun k q => (9, .int .i64 (k : Int)) :: (4, .int .i64 (sumL f l k)) :: q) (fun _ => _) (fun _ => []) (fun _ => True) trivial rfl (zE 9 rfl rfl (zE 4 rfl rfl (zS 0 rfl (zS 1 rfl (zS 7 rfl (zS 8 rfl (Sub.nil _))))))) .nil ?_
  intro k kN kI
  clear kI
  refine st ?_
  refine cn rfl ?_ ?_
  ·intro c0'
   have hk : k < l.length := by omega
   have hbk := hb k (by omega)
   have hrk := hr _ (List.getElem_mem hk)
   refine st ?_
   refine lv (Ab0 rfl rfl Aq7 (by omega) (by omega) (hS.ptrM hk)) ?_
   refine lv (Ab8 rfl (fun w hm => hS.loadM (by decide) hm (by simp) Az8 hk)) ?_
   refine zn (New.alloc Al4) (fun b6 => ?_)
   refine Aa9 (Sto.store rfl rfl .here Az8 rfl rfl) rfl rfl ?_
   refine su ?_
   refine Ab3 (Ad1 rfl rfl he) rfl rfl rfl (fun w hm => hf _ (List.getElem_mem hk) w hm.drop) ?_
   refine lv (Val.add rfl rfl (IntWalk.i64_in _ ⟨by omega, by omega⟩)) ?_
   refine lv (Val.add rfl rfl (IntWalk.i64_in _ ⟨by omega, by omega⟩)) ?_
   exact Ae4 (by omega) trivial rfl (zE 9 rfl rfl (zE 4 rfl (by rw [BN1 hk]) (zS 0 rfl (zS 1 rfl (zS 7 rfl (zS 8 rfl (Sub.nil _))))))) .nil
  intro c0'
  obtain rfl : k = l.length := by omega
  refine RunC.exit ?_
  refine su ?_
  refine Ab2 ?_
  refine su ?_
  exact Aa7 (.r1 rfl (.tmp rfl)) (by first | rfl | simp)
end Go.Proofs.YthbiaipagceokaaGreat
namespace Go.Proofs.YthbiaipagceokaaGreat
open Go Go.Eng Go.Pw1

theorem Bb4 (b : Nat) (w : World) : CallsD Tryz.prog 28 #[.pointer (some ⟨b, 0, none⟩)] .returning w fun e u w' => (∃ v, e = .returned v) ∧ u = .returning ∧ Mem w [] [] w' := by
  refine callsD_of_wpS Tryz.func28 rfl fun c₀ cs hu => ?_
  refine wpS_seq ?_
  refine wpS_region ?_
  simp [wpOpsS, go_sem, recoverD, hu, Tryz.ntmps28, Exit.thenS]
  refine wpS_of_wp ?_
  refine AW0 20 [(0, .pointer (some ⟨b, 0, none⟩)), (2, .nilIface)] w [] ?_ ?_
  · exact ⟨by simp, .consA (by simp) (.consA (by simp [Array.getElem?_append]) (Agree.nil _)), rfl, Mem.refl w⟩
  refine st ?_
  refine lv (Ax1 rfl Bi4) ?_
  refine RunC.cond rfl (fun h => absurd h (by simp)) ?_
  intro c0
  clear c0
  refine RunC.skip ?_
  intro a w2 s
  exact ⟨s.defers, .returning, by rw [← hu], _, results_none rfl _ _ _, ⟨_, rfl⟩, rfl, s.mem.drop⟩
theorem Bb3 (b : Nat) (k : Int) (x : Value) (w : World) (hb : w.heap[b]? = some (.cells #[x] 30 (0, 0))) : CallsD Tryz.prog 28 #[.pointer (some ⟨b, 0, none⟩)] (.panicking [{ v := cmisf k, recovered := false }]) w fun e u w' =>
    (∃ v, e = .returned v) ∧ u = .panicking [{ v := cmisf k, recovered := true }] ∧ Mem w [(b, .cells #[.int .i64 k] 30 (0, 0))] [] w' := by
  refine callsD_of_wpS Tryz.func28 rfl fun c₀ cs hu => ?_
  refine wpS_seq ?_
  refine wpS_region ?_
  simp [wpOpsS, go_sem, recoverD, hu, Tryz.ntmps28, Exit.thenS]
  refine wpS_of_wp ?_
  refine AW0 20 [(0, .pointer (some ⟨b, 0, none⟩)), (2, cmisf k)] w [(b, .cells #[x] 30 (0, 0))] ?_ ?_
  · exact ⟨by simp, .consA (by simp) (.consA (by simp [Array.getElem?_append]) (Agree.nil _)), rfl, Mem.start hb⟩
  refine st ?_
  refine lv (As7 rfl Bi4) ?_
  refine RunC.cond rfl ?_ (fun h => absurd h (by simp))
  intro c0
  clear c0
  refine st ?_
  refine lv (AF4 rfl Bk1) ?_
  refine zn (New.alloc Bi1) (fun b3 => ?_)
  refine Aa9 (Sto.store rfl rfl .here BM9 rfl rfl) rfl rfl ?_
  refine st ?_
  refine RunC.cond rfl (fun h => absurd h (by simp)) ?_
  intro c1
  clear c1
  refine su ?_
  refine Aa9 (Ag5 rfl rfl .here Ah4 rfl rfl) rfl rfl ?_
  refine RunL.nil ?_
  intro a w2 s
  exact ⟨s.defers, .panicking [{ v := cmisf k, recovered := true }], rfl, _, results_none rfl _ _ _, ⟨_, rfl⟩, rfl, s.mem.drop⟩
theorem AI7 : Catches Tryz.prog 28 30 cmisf := ⟨Bb4, fun b k x w h => Bb3 b k x w h⟩
end Go.Proofs.YthbiaipagceokaaGreat
namespace Go.Proofs.YthbiaipagceokaaGreat
open Go Go.Eng
theorem AN1 : apB Tryz.prog 118 = some (120, 3, 24) := by kernel_rfl
theorem Bl2 : Enters Tryz.prog 44 := Aa6 Tryz.func44 (by kernel_rfl) rfl
theorem Cc7 : Enters Tryz.prog 45 := Aa6 Tryz.func45 (by kernel_rfl) rfl
theorem Au5 : fieldB Tryz.prog 87 1 = some 2 := by kernel_rfl
instance : Fld Tryz.prog 87 1 2 := ⟨Au5⟩
theorem Ao4 : mapB Tryz.prog 85 = some 118 := by kernel_rfl
theorem AP5 : placesB Tryz.prog 120 = some [(0, 1), (1, 1), (2, 1)] := by kernel_rfl
theorem Bv6 : placesB Tryz.prog 87 = some [(0, 2), (2, 1)] := by kernel_rfl
theorem AC4 : tyB Tryz.prog 39 = some (true, 2) := by kernel_rfl
instance : Tyc Tryz.prog 39 true 2 := ⟨AC4⟩
theorem Bd4 : tyB Tryz.prog 85 = some (false, 1) := by kernel_rfl
instance : Tyc Tryz.prog 85 false 1 := ⟨Bd4⟩
theorem Am4 : zeroV Tryz.prog 118 = some (.slice none 0 0) := by kernel_rfl
theorem AA3 : zeroB Tryz.prog 43 = some [.int .i64 0, .int .i64 0, .int .i64 0, .int .i64 0, .int .i64 0, .int .i64 0] := by kernel_rfl
theorem BQ8 : zeroB Tryz.prog 87 = some [.int .i64 0, .slice none 0 0, .map none] := by kernel_rfl
end Go.Proofs.YthbiaipagceokaaGreat
namespace Go.Ct
open Go Go.Eng Go.Pw1
def all8 : List (Fin 8) := [0, 1, 2, 3, 4, 5, 6, 7]
theorem Bn4 (k : Fin 8) : k ∈ all8 := by revert k; decide
theorem all8_nd : all8.Nodup := by decide
/-- The looks of each station, while they are gathered: which stations are in the map, each one's slice, and its looks. -/
structure PS where
  ks : List (Fin 8)
  ow : Fin 8 → Eng.Own
  F : Fin 8 → List Lk
def upd8 {α : Type} (f : Fin 8 → α) (k : Fin 8) (x : α) (i : Fin 8) : α := if i = k then x else f i
def PS.put (p : PS) (k : Fin 8) (z : Eng.Own) (l : List Lk) : PS := ⟨if k ∈ p.ks then p.ks else p.ks ++ [k], upd8 p.ow k z, upd8 p.F k l⟩
def PS.nil : PS := ⟨[], fun _ => none, fun _ => []⟩
def PS.ents (p : PS) : List (Int × Value) := p.ks.map fun k => ((k.val : Int), ownV (p.ow k) (p.F k).length)
structure PsOk (p : PS) : Prop where
  own : ∀ k, OwnOk 3 (p.ow k) (p.F k).length ((p.F k).map Lk.cells).flatten
  out : ∀ k, k ∉ p.ks → p.ow k = none ∧ p.F k = []
theorem PsOk.nil : PsOk PS.nil := ⟨fun _ => OwnOk.start, fun _ _ => ⟨rfl, rfl⟩⟩
theorem PsOk.put {p : PS} (h : PsOk p) (k : Fin 8) {z : Eng.Own} {l : List Lk} (hz : OwnOk 3 z l.length (l.map Lk.cells).flatten) : PsOk (p.put k z l) := by
  refine ⟨fun i => ?_, fun i hi => ?_⟩
  · unfold PS.put upd8
    by_cases e : i = k
    · simp only [e, if_true]; exact hz
    · simp only [e, if_false]; exact h.own i
  · have h1 : i ≠ k ∧ i ∉ p.ks := by
      unfold PS.put at hi
      simp only at hi
      by_cases e : k ∈ p.ks
      · rw [if_pos e] at hi
        exact ⟨fun e2 => hi (e2 ▸ e), hi⟩
      · rw [if_neg e] at hi
        simp only [List.mem_append, List.mem_singleton, not_or] at hi
        exact ⟨hi.2, hi.1⟩
    unfold PS.put upd8
    simp only [h1.1, if_false]
    exact h.out i h1.2
theorem AZ3 (f : Fin 8 → Value) (a : Fin 8) : ∀ ks : List (Fin 8), mFind (ks.map fun k => ((k.val : Int), f k)) (a.val : Int) = if a ∈ ks then some (f a) else none
  | [] => rfl
  | k :: ks => by
    have ih := AZ3 f a ks
    show Option.map _ (if ((k.val : Nat) : Int) = ((a.val : Nat) : Int) then some (0, f k) else Option.map _ (mIdx _ _)) = _
    by_cases h : k = a
    · subst h
      rw [if_pos rfl, if_pos (List.mem_cons_self ..)]
      rfl
    · have h2 : ¬ ((k.val : Nat) : Int) = ((a.val : Nat) : Int) := fun e => h (Fin.ext (Int.ofNat_inj.1 e))
      rw [if_neg h2]
      have h3 : (a ∈ k :: ks) ↔ a ∈ ks := by simp only [List.mem_cons]; exact ⟨fun e => e.resolve_left (fun e => h e.symm), .inr⟩
      have h4 : (if a ∈ k :: ks then some (f a) else none) = if a ∈ ks then some (f a) else none := by
        by_cases h5 : a ∈ ks
        · rw [if_pos (h3.2 h5), if_pos h5]
        · rw [if_neg (fun e => h5 (h3.1 e)), if_neg h5]
      rw [h4, ← ih]
      show Option.map _ (Option.map _ (mIdx (ks.map fun k => ((k.val : Int), f k)) (a.val : Int))) = Option.map _ (mIdx (ks.map fun k => ((k.val : Int), f k)) (a.val : Int))
      cases mIdx (ks.map fun k => ((k.val : Int), f k)) (a.val : Int) <;> rfl
theorem AZ2 (f : Fin 8 → Value) (a : Int) (ha : ∀ k : Fin 8, (k.val : Int) ≠ a) : ∀ ks : List (Fin 8), mFind (ks.map fun k => ((k.val : Int), f k)) a = none
  | [] => rfl
  | k :: ks => by
    have ih := AZ2 f a ha ks
    show Option.map _ (if ((k.val : Nat) : Int) = a then some (0, f k) else Option.map _ (mIdx _ _)) = _
    rw [if_neg (ha k)]
    unfold mFind at ih
    rw [← ih]
    cases mIdx (ks.map fun k => ((k.val : Int), f k)) a <;> rfl
theorem Bk3 {f g : Fin 8 → Value} {a : Fin 8} (hg : ∀ k, k ≠ a → g k = f k) : ∀ ks : List (Fin 8), ks.Nodup → mSet (ks.map fun k => ((k.val : Int), f k)) (a.val : Int) (g a) = (if a ∈ ks then ks else ks ++ [a]).map fun k => ((k.val : Int), g k)
  | [], _ => rfl
  | k :: ks, hn => by
    have hn2 := List.nodup_cons.1 hn
    have ih := Bk3 hg ks hn2.2
    show (if ((k.val : Nat) : Int) = ((a.val : Nat) : Int) then _ else _) = _
    by_cases h : k = a
    · subst h
      rw [if_pos rfl, if_pos (List.mem_cons_self ..), List.map_cons]
      congr 1
      exact List.map_congr_left (fun x hx => by rw [hg x (fun e => hn2.1 (e ▸ hx))])
    · have h2 : ¬ ((k.val : Nat) : Int) = ((a.val : Nat) : Int) := fun e => h (Fin.ext (Int.ofNat_inj.1 e))
      rw [if_neg h2]
      have h3 : (if a ∈ k :: ks then k :: ks else k :: ks ++ [a]) = k :: (if a ∈ ks then ks else ks ++ [a]) := by
        by_cases h5 : a ∈ ks
        · rw [if_pos h5, if_pos (List.mem_cons_of_mem _ h5)]
        · rw [if_neg h5, if_neg (by simp only [List.mem_cons, not_or]; exact ⟨fun e => h e.symm, h5⟩)]
          rfl
      rw [h3, List.map_cons, hg k h, ← ih]
theorem Aw9 {p : PS} (h : PsOk p) (k : Fin 8) : (mFind p.ents (k.val : Int)).getD (.slice none 0 0) = ownV (p.ow k) (p.F k).length := by
  unfold PS.ents
  rw [AZ3]
  by_cases hk : k ∈ p.ks
  · rw [if_pos hk]; rfl
  · rw [if_neg hk, (h.out k hk).1, (h.out k hk).2]; rfl
theorem BK9 {p : PS} (hn : p.ks.Nodup) (k : Fin 8) (z : Eng.Own) (l : List Lk) : mSet p.ents (k.val : Int) (ownV z l.length) = (p.put k z l).ents := by
  have h := Bk3 (f := fun k => ownV (p.ow k) (p.F k).length) (g := fun i => ownV (upd8 p.ow k z i) (upd8 p.F k l i).length) (a := k) (fun i hi => by unfold upd8; rw [if_neg hi, if_neg hi]) p.ks hn
  have e : ownV (upd8 p.ow k z k) (upd8 p.F k l k).length = ownV z l.length := by unfold upd8; rw [if_pos rfl, if_pos rfl]
  simp only [e] at h
  exact h
theorem BN3 {p : PS} (hn : p.ks.Nodup) (k : Fin 8) (z : Eng.Own) (l : List Lk) : (p.put k z l).ks.Nodup := by
  show (if k ∈ p.ks then p.ks else p.ks ++ [k]).Nodup
  split
  · exact hn
  · rename_i h
    rw [List.nodup_append]
    exact ⟨hn, by simp, fun x hx y hy => by rw [List.mem_singleton.1 hy]; rintro rfl; exact h hx⟩
/-! ### The slices' blocks -/
abbrev owB (T : TypeId) (p : PS) (k : Fin 8) : Blks := ownB T (p.ow k) ((p.F k).map Lk.cells).flatten
def tlP (T : TypeId) (p : PS) : Blks := all8.flatMap (owB T p)
def tlR (T : TypeId) (p : PS) (k : Fin 8) : Blks := (all8.erase k).flatMap (owB T p)
theorem AS8 (T : TypeId) (p : PS) (k : Fin 8) : (tlP T p).Perm (owB T p k ++ tlR T p k) := (List.perm_cons_erase (Bn4 k)).flatMap_right (owB T p)
open Classical in
theorem AL3 {A B : Blks} (h : B.Perm A) : Pick A B := Pick.cnt fun x => by rw [h.count_eq]; exact Nat.le_refl _
theorem Bp6 (T : TypeId) (p : PS) (k : Fin 8) : Pick (owB T p k ++ tlR T p k) (tlP T p) := AL3 (AS8 T p k)
theorem Bv5 (T : TypeId) (p : PS) (k : Fin 8) (z : Eng.Own) (l : List Lk) : owB T (p.put k z l) k = ownB T z (l.map Lk.cells).flatten := by
  show ownB T (upd8 p.ow k z k) ((upd8 p.F k l k).map Lk.cells).flatten = _
  unfold upd8
  rw [if_pos rfl, if_pos rfl]
theorem Bj4 (T : TypeId) (p : PS) (k : Fin 8) (z : Eng.Own) (l : List Lk) : tlR T (p.put k z l) k = tlR T p k := by
  unfold tlR
  rw [List.flatMap_def, List.flatMap_def]
  congr 1
  refine List.map_congr_left (fun i hi => ?_)
  have hik : i ≠ k := ((all8_nd.mem_erase_iff).1 hi).1
  show ownB T (upd8 p.ow k z i) ((upd8 p.F k l i).map Lk.cells).flatten = _
  unfold upd8
  rw [if_neg hik, if_neg hik]
theorem AY4 (T : TypeId) (p : PS) (k : Fin 8) (z : Eng.Own) (l : List Lk) : Pick (tlP T (p.put k z l)) (ownB T z (l.map Lk.cells).flatten ++ tlR T p k) := by
  have h := AS8 T (p.put k z l) k
  rw [Bv5, Bj4] at h
  exact AL3 h.symm
theorem Bj6 (T : TypeId) (p : PS) (k j : Fin 8) (z : Eng.Own) (l : List Lk) : Pick (owB T (p.put k z l) j ++ tlR T (p.put k z l) j) (ownB T z (l.map Lk.cells).flatten ++ tlR T p k) := by
  have h := AS8 T (p.put k z l) k
  rw [Bv5, Bj4] at h
  exact AL3 (h.symm.trans (AS8 T (p.put k z l) j))
theorem AS5 {α : Type} (f : Fin 8 → α) (k : Fin 8) (x : α) : upd8 f k x k = x := by unfold upd8; rw [if_pos rfl]
theorem Aw2 {α : Type} (f : Fin 8 → α) {k i : Fin 8} (x : α) (h : i ≠ k) : upd8 f k x i = f i := by unfold upd8; rw [if_neg h]
def addA (p : PS) (k : Nat) (a b : Fin 8) : List Lk := p.F a ++ [⟨k, (b.val : Int), false⟩]
def putA (p : PS) (k : Nat) (a b : Fin 8) (z : Eng.Own) : PS := p.put a z (addA p k a b)
def addB (p : PS) (k : Nat) (a b : Fin 8) (z : Eng.Own) : List Lk := (putA p k a b z).F b ++ [⟨k, (a.val : Int), true⟩]
def putB (p : PS) (k : Nat) (a b : Fin 8) (z z2 : Eng.Own) : PS := (putA p k a b z).put b z2 (addB p k a b z)
theorem AF3 (p : PS) (k : Nat) (a b : Fin 8) : ((p.F a).map Lk.cells).flatten ++ Lk.cells ⟨k, (b.val : Int), false⟩ = ((addA p k a b).map Lk.cells).flatten := Ap6 _ _
theorem AJ1 (p : PS) (k : Nat) (a b : Fin 8) : (addA p k a b).length = (p.F a).length + 1 := by unfold addA; rw [List.length_append]; rfl
theorem AF2 (p : PS) (k : Nat) (a b : Fin 8) (z : Eng.Own) : (((putA p k a b z).F b).map Lk.cells).flatten ++ Lk.cells ⟨k, (a.val : Int), true⟩ = ((addB p k a b z).map Lk.cells).flatten := Ap6 _ _
theorem AJ0 (p : PS) (k : Nat) (a b : Fin 8) (z : Eng.Own) : (addB p k a b z).length = ((putA p k a b z).F b).length + 1 := by unfold addB; rw [List.length_append]; rfl
theorem Be4 {p : PS} (hn : p.ks.Nodup) (k : Nat) (a b : Fin 8) (z : Eng.Own) : (putA p k a b z).ks.Nodup := BN3 hn a z _
theorem BS6 {p : PS} (hn : p.ks.Nodup) (k : Nat) (a b : Fin 8) (z z2 : Eng.Own) : (putB p k a b z z2).ks.Nodup := BN3 (Be4 hn k a b z) b z2 _
theorem AK9 {p : PS} (h : PsOk p) {k : Nat} {a b : Fin 8} {z : Eng.Own} (hz : OwnOk 3 z (addA p k a b).length ((addA p k a b).map Lk.cells).flatten) : PsOk (putA p k a b z) := h.put a hz
theorem BS5 {p : PS} (h : PsOk p) {k : Nat} {a b : Fin 8} {z z2 : Eng.Own} (hz : OwnOk 3 z (addA p k a b).length ((addA p k a b).map Lk.cells).flatten) (hz2 : OwnOk 3 z2 (addB p k a b z).length ((addB p k a b z).map Lk.cells).flatten) : PsOk (putB p k a b z z2) := (AK9 h hz).put b hz2
theorem Bo3 {p : PS} {k : Nat} {a b : Fin 8} {z : Eng.Own} (hab : a ≠ b) : (putA p k a b z).F b = p.F b := Aw2 _ _ (fun e => hab e.symm)
/-- One sight more. -/
theorem Bx3 {p : PS} {l : List Sg} {i : Nat} (hF : ∀ k : Fin 8, p.F k = lksK l i (k.val : Int)) {a b : Fin 8} (hab : a ≠ b) {s : Sg} (hs : l.getD i zSg = s) (ha : s.fr = (a.val : Int)) (hb : s.to = (b.val : Int)) (z1 z2 : Eng.Own) :
    ∀ k : Fin 8, (putB p i a b z1 z2).F k = lksK l (i + 1) (k.val : Int) := by
  intro k
  show upd8 (upd8 p.F a (p.F a ++ [⟨i, (b.val : Int), false⟩])) b (upd8 p.F a (p.F a ++ [⟨i, (b.val : Int), false⟩]) b ++ [⟨i, (a.val : Int), true⟩]) k = lksK l i (k.val : Int) ++ lk1 i (l.getD i zSg) (k.val : Int)
  rw [hs]
  unfold lk1
  rw [ha, hb]
  have hc : ∀ x y : Fin 8, ((x.val : Nat) : Int) = ((y.val : Nat) : Int) ↔ x = y := fun x y => ⟨fun e => Fin.ext (Int.ofNat_inj.1 e), fun e => by rw [e]⟩
  by_cases h1 : k = a
  · subst h1
    rw [Aw2 _ _ hab, AS5, if_pos rfl, if_neg (fun e => hab ((hc _ _).1 e).symm), hF, List.append_nil]
  · by_cases h2 : k = b
    · subst h2
      rw [AS5, Aw2 _ _ h1, if_neg (fun e => hab ((hc _ _).1 e)), if_pos rfl, hF, List.nil_append]
    · rw [Aw2 _ _ h2, Aw2 _ _ h1, if_neg (fun e => h1 ((hc _ _).1 e).symm), if_neg (fun e => h2 ((hc _ _).1 e).symm), hF, List.append_nil, List.append_nil]
theorem Bx6 {c : Ch} (h : ChOk c) {k : Int} (hk : ∀ j : Fin 8, (j.val : Int) ≠ k) : lks c k = [] := by
  have hst := h.st
  have key : ∀ i, i ≤ c.sg.length → lksK c.sg i k = [] := by
    intro i
    induction i with
    | zero => intro _; rfl
    | succ i ih =>
      intro hi
      have hs : c.sg.getD i zSg = c.sg[i]'(by omega) := by rw [List.getD_eq_getElem?_getD, List.getElem?_eq_getElem (by omega)]; rfl
      have ho := h.sg _ (List.getElem_mem (show i < c.sg.length by omega))
      have h1 := ho.f; have h2 := ho.t
      show lksK c.sg i k ++ lk1 i (c.sg.getD i zSg) k = []
      rw [ih (by omega), hs]
      unfold lk1
      rw [if_neg (fun e => hk ⟨k.toNat, by omega⟩ (by show ((k.toNat : Nat) : Int) = k; omega)), if_neg (fun e => hk ⟨k.toNat, by omega⟩ (by show ((k.toNat : Nat) : Int) = k; omega))]
      rfl
  exact key _ (Nat.le_refl _)
theorem AO8 {T : TypeId} {c : Ch} (hc : ChOk c) {p : PS} (h : PsOk p) (hF : ∀ k : Fin 8, p.F k = lks c (k.val : Int)) {m : Nat} {w : World} (hm : w.heap[m]? = some (mapO p.ents)) (ht : ∀ b o, (b, o) ∈ tlP T p → w.heap[b]? = some o) : FrOk w c m p.ents := by
  refine ⟨hm, fun k => ?_⟩
  by_cases hk : ∃ j : Fin 8, (j.val : Int) = k
  · obtain ⟨j, rfl⟩ := hk
    have ho := h.own j
    refine ⟨ownQ (p.ow j), ownK (p.ow j), 0, ownC (p.ow j), ?_, ?_⟩
    · rw [Aw9 h j, Af8 ho, hF]
    · rw [← hF]
      exact Ai6 (f := Lk.cells) (fun _ => rfl) (by decide) ho (fun b o hb => ht b o (List.mem_flatMap.2 ⟨j, Bn4 j, hb⟩))
  · have hk2 : ∀ j : Fin 8, (j.val : Int) ≠ k := fun j e => hk ⟨j, e⟩
    refine ⟨none, 0, 0, 0, ?_, ?_⟩
    · unfold PS.ents
      rw [AZ2 _ _ hk2, Bx6 hc hk2]; rfl
    · rw [Bx6 hc hk2]; exact Sl.emp
def openC (c : Ch) (l : List Int) : Except Int Unit := if chartV c then (if l.any (fun n => !within n 0 (c.st - 1)) then .error 2 else .ok ()) else .error 1
structure OpZ where
  bv : Nat
  m : Nat
  p : PS
abbrev OpenT (c : Ch) := { z : OpZ // PsOk z.p ∧ ∀ k : Fin 8, z.p.F k = lks c (k.val : Int) }
section
variable {P : Program} {ops : Array Oper} {Q : Exit → Act → World → Prop} {n : Nat} {r : Regs} {ds : List Deferred} {W : World} {chg news : Blks} {rest : List Oper}
variable {d : Nat} {ty : TypeId} {pos : String} {after : Array Edge} {dst : Option Tmp} {gd : Option (Nat × Bool)}
theorem AF5 {x i y : Operand} {T E : TypeId} {b : Nat} {p : PS} (hn : p.ks.Nodup) {k : Fin 8} {z : Eng.Own} {l : List Lk} {len : Nat} {news' : Blks} (hx : rev r x = some (.map (some b))) (hi : rev r i = some (.int .i64 (k.val : Int))) (hy : rev r y = some (ownV z len)) (hl : len = l.length) (hT : mapB P T = some E) (hu : Upd news b (mapO p.ents) (mapO (p.put k z l).ents) news') :
    Sto P r W chg news { dst, op := .mapUpdate T x i y, type := ty, pos, after, guard := gd } chg news' := by
  subst hl
  rw [← BK9 hn] at hu
  exact AR4 hx hi hy hT hu
end
end Go.Ct
namespace Go.Proofs.YthbiaipagceokaaGreat
open Go Go.Eng Go.Ct Go.RowKit
open Go.Pw1 (Ai5 Ah0 needX within idxF Ah2 Ap7 Ai1 Ag9 Ai7)
-- Ao4
-- Am4
set_option maxHeartbeats 2000000 in
theorem Av3 (c : ChA) (hl : c.sg.l.length ≤ 100000000000) (l : List Int) (q2 : Option Addr) (b2' o2 cap2 : Nat) (W : World) (hS : c.Ok W) (hL : Sl W q2 b2' o2 1 (l.map fun n => [.int .i64 n])) (hl2 : l.length ≤ 100000) :
    Calls Tryz.prog 29 #[c.v, .slice q2 l.length cap2] W (TryB cmisf (openC c.pl l) (fun z : OpenT c.pl => pV z.1.bv) (fun z => (z.1.bv, ctO c z.1.m) :: (z.1.m, mapO z.1.p.ents) :: (tlP 120 z.1.p ++ [])) W) := by
  refine Aa2 Tryz.func29 rfl rfl ?_
  refine csr ?_
  refine Ad9 (New.box rfl) rfl rfl rfl (fun b2 => ?_)
  refine vp rfl rfl rfl rfl ?_
  refine nsr ?_
  refine Aa1 (Ac4 rfl (.head _) AC4 rfl) rfl rfl rfl ?_
  refine Ab3 (Ab7 rfl Cc7) rfl rfl rfl (fun w hm => AT8 c hl w (hS.mono0 hm)) ?_
  refine Am1 (Ab7 rfl Bl2) rfl rfl rfl (fun w hm => Av4 _ _ w) (fun e12 he12 => ?_) (fun v12 hv12 => ?_)
  ·obtain ⟨er12, rfl⟩ := Ah0 he12
   refine Ab6 ?_
   exact AH5 (by unfold openC; rw [if_neg (by simp [er12])])
  obtain ⟨ok12, rfl⟩ := Ai5 hv12
  refine nnx ?_
  refine RunC.seq ?_
  refine csr ?_
  refine vp rfl rfl rfl rfl ?_
  refine Aa1 (Ag7 rfl Am6) rfl rfl rfl ?_
  refine vp rfl rfl rfl rfl ?_
  refine nnx ?_
  refine RunC.block ?_
  refine Af5 (l.length) (fun k q => (15, .int .i64 (k : Int)) :: q) (fun _ => _) (fun _ => []) (fun k => (l.take k).any (fun n => !within n 0 (c.pl.st - 1)) = false) (by simp) rfl (Ad4 (t := 15) rfl rfl (Sub.cons (t := 2) rfl (Sub.cons (t := 13) rfl (Sub.cons (t := 14) rfl (Sub.nil _))))) (.cons .here rfl .nil) ?_
  intro k kN kI
  refine csr ?_
  refine vp rfl rfl rfl rfl ?_
  refine nnx ?_
  refine RunC.seq ?_
  refine RunC.cond rfl ?_ ?_
  ·intro c0
   have c0' := c0; clear c0
   try simp only [nH] at c0'
   have hk : k < l.length := by omega
   have hst := (AE7 ok12).st
   have hst2 : 1 ≤ c.st ∧ c.st ≤ 8 := hst
   refine RunC.skip ?_
   refine RunE.next ?_
   refine RunC.seq ?_
   refine RunC.block ?_
   refine csr ?_
   refine Aa1 (Ab0 rfl rfl Am6 (by omega) (by omega) (hL.ptrM hk)) rfl rfl rfl ?_
   refine Aa1 (Ab8 rfl (fun w hm => hL.loadM1 (by decide) hm (by simp) Ag0 hk (v := .int .i64 l[k]) rfl)) rfl rfl rfl ?_
   refine vp rfl rfl rfl rfl ?_
   refine nnx ?_
   refine RunC.region ?_
   refine vp rfl rfl rfl rfl ?_
   refine Aa1 (Val.fieldAddr rfl Aj9) rfl rfl rfl ?_
   refine Aa1 (Aa3 rfl (.head _) Ag0 rfl) rfl rfl rfl ?_
   refine Aa1 (Af3 rfl rfl (IntWalk.i64_in _ ⟨by omega, by omega⟩)) rfl rfl rfl ?_
   refine Ab3 (Ab7 rfl BB5) rfl rfl rfl (fun w hm => Av2 _ _ _ w) ?_
   refine Am1 (Ab7 rfl Bl2) rfl rfl rfl (fun w hm => Av4 _ _ w) (fun e24 he24 => ?_) (fun v24 hv24 => ?_)
   ·obtain ⟨er24, rfl⟩ := Ah0 he24
    refine Ae9 ?_
    refine Ab6 ?_
    refine Ab6 ?_
    refine Ae9 ?_
    refine Ab6 ?_
    exact AH5 (by unfold openC; rw [if_pos ok12, if_pos (Ap7 hk (f := fun n => !within n 0 (c.pl.st - 1)) (by show (!within l[k] 0 (c.st - 1)) = true; simp [er24]))])
   obtain ⟨ok24, rfl⟩ := Ai5 hv24
   refine RunL.nil ?_
   refine Ad0 ?_
   refine RunE.next ?_
   refine RunC.region ?_
   refine Aa1 (Val.add rfl rfl (IntWalk.i64_in _ ⟨by omega, by omega⟩)) rfl rfl rfl ?_
   refine vp rfl rfl rfl rfl ?_
   refine RunL.nil ?_
   exact Ae4 (by omega) (Ah2 hk kI (by simp [show within l[k] 0 (c.pl.st - 1) = true from ok24])) rfl (Ad4 (t := 15) rfl rfl (Sub.cons (t := 2) rfl (Sub.cons (t := 13) rfl (Sub.cons (t := 14) rfl (Sub.nil _))))) (.cons .here rfl .nil)
  intro c0
  have c0' := c0; clear c0
  try simp only [nH] at c0'
  obtain rfl : k = l.length := by omega
  rw [List.take_length] at kI
  refine RunC.exit ?_
  refine Ac0 ?_
  refine Ac0 ?_
  refine Ab2 ?_
  refine RunE.next ?_
  refine csr ?_
  refine Aa1 (Ac4 rfl (.head _) AC4 rfl) rfl rfl rfl ?_
  refine Ad9 New.makeMap rfl rfl rfl (fun b27 => ?_)
  refine Aa1 (Val.build (parts := [(0, .tmp 26), (1, .tmp 27)]) rfl BQ8 Bv6 rfl) rfl rfl rfl ?_
  refine Ad9 (New.box rfl) rfl rfl rfl (fun b29 => ?_)
  refine vp rfl rfl rfl rfl ?_
  refine nnx ?_
  refine RunC.seq ?_
  refine csr ?_
  refine Aa1 (Val.fieldAddr rfl Ay7) rfl rfl rfl ?_
  refine Aa1 (Aa3 rfl (.tail _ (.tail _ (.head _))) Bd5 rfl) rfl rfl rfl ?_
  refine Aa1 (Ag7 rfl AO7) rfl rfl rfl ?_
  refine vp rfl rfl rfl rfl ?_
  refine nnx ?_
  refine RunC.block ?_
  refine Al2 (X := PS) (n0 := [(b29, _)]) (c.sg.l.length) (fun k p q => (33, .int .i64 (k : Int)) :: q) (fun _ _ => _) (fun k p => [(b27, mapO p.ents)]) (fun k p => tlP 120 p) (fun k p => PsOk p ∧ p.ks.Nodup ∧ ∀ j : Fin 8, p.F j = lksK c.sg.l k (j.val : Int)) PS.nil ⟨PsOk.nil, List.nodup_nil, fun _ => rfl⟩ rfl (Ad4 (t := 33) rfl rfl (Sub.cons (t := 7) rfl (Sub.cons (t := 31) rfl (Sub.cons (t := 32) rfl (Sub.nil _))))) (.cons (.there .here) rfl (.cons .here rfl (Pick.skip (Pick.same rfl)))) ?_
  intro k p kN kI
  obtain ⟨hp, hpn, hpF⟩ := kI
  refine csr ?_
  refine vp rfl rfl rfl rfl ?_
  refine nnx ?_
  refine RunC.seq ?_
  refine RunC.cond rfl ?_ ?_
  ·intro c1
   have c1' := c1; clear c1
   try simp only [nH] at c1'
   have hk : k < c.sg.l.length := by omega
   obtain ⟨sg, hsg⟩ : ∃ s, c.sg.l[k] = s := ⟨_, rfl⟩
   have hsd : c.sg.l.getD k zSg = sg := by (rw [List.getD_eq_getElem?_getD, List.getElem?_eq_getElem hk]; exact hsg)
   have hsok := (AE7 ok12).sg sg (hsg ▸ List.getElem_mem hk)
   have hst := (AE7 ok12).st
   have hfew := (AE7 ok12).few
   have hfew2 : c.sg.l.length ≤ 10 := hfew
   obtain ⟨fr, to, e, nn⟩ := sg
   obtain ⟨ka, rfl⟩ : ∃ ka : Fin 8, fr = (ka.val : Int) := (by have h1 := hsok.f; dsimp only at h1; exact ⟨⟨fr.toNat, by omega⟩, by show fr = ((fr.toNat : Nat) : Int); omega⟩)
   obtain ⟨kb, rfl⟩ : ∃ kb : Fin 8, to = (kb.val : Int) := (by have h1 := hsok.t; dsimp only at h1; exact ⟨⟨to.toNat, by omega⟩, by show to = ((to.toNat : Nat) : Int); omega⟩)
   have hab : ka ≠ kb := fun e => hsok.ne (by rw [e])
   have hFa : (p.F ka).length ≤ 20 := by (rw [hpF]; have h9 := AD5 c.sg.l (ka.val : Int) k; omega)
   refine RunC.skip ?_
   refine RunE.next ?_
   refine RunC.seq ?_
   refine RunC.block ?_
   refine csr ?_
   refine vp rfl rfl rfl rfl ?_
   refine Aa1 (Ab0 rfl rfl AO7 (by omega) (by omega) (Sl.ptrM hS hk)) rfl rfl rfl ?_
   refine Aa1 (Ab8 rfl (fun w hm => Sl.loadX hS (by decide) hm (by simp) AS6 hk hsg)) rfl rfl rfl ?_
   refine Ad9 (New.alloc AA3) rfl rfl rfl (fun b9 => ?_)
   refine As9 (Ab5 _) (.cons .here rfl (.cons (.there .here) rfl (.cons .here rfl (Bp6 120 p ka)))) ?_
   refine vp rfl rfl rfl rfl ?_
   refine Aa9 (Sto.store rfl rfl .here AS6 rfl rfl) rfl rfl ?_
   refine nnx ?_
   refine RunC.seq ?_
   refine Ap2 (X := Eng.Own) 19 (n0 := [(b9, _), (b29, _)]) (fun z1 q => q) (fun z1 => []) (fun z1 => [(b27, mapO (putA p k ka kb z1).ents)]) (fun z1 => owB 120 (putA p k ka kb z1) kb ++ tlR 120 (putA p k ka kb z1) kb) (fun z1 => OwnOk 3 z1 (addA p k ka kb).length ((addA p k ka kb).map Lk.cells).flatten) Al3 (.cons .here rfl (.cons .here rfl .nil)) (Sub.cons (t := 7) rfl (Sub.cons (t := 8) rfl (Sub.cons (t := 9) rfl (Sub.cons (t := 31) rfl (Sub.cons (t := 32) rfl (Sub.cons (t := 33) rfl (Sub.nil _))))))) (.cons .here rfl (.cons .here rfl .nil)) ?_ ?_
   ·refine va 0 rfl (Aa5 rfl) rfl rfl rfl (.cons .here rfl (.cons .here rfl .nil)) rfl ?_
    refine va 1 rfl (Aa5 rfl) rfl rfl rfl (.cons .here rfl (.cons .here rfl .nil)) rfl ?_
    refine va 2 rfl (Val.fieldAddr rfl Au5) rfl rfl rfl (.cons .here rfl (.cons .here rfl .nil)) rfl ?_
    refine va 3 rfl (Aa3 rfl (.tail _ (.head _)) Bd4 rfl) rfl rfl rfl (.cons .here rfl (.cons .here rfl .nil)) rfl ?_
    refine va 4 rfl (Val.fieldAddr rfl Au9) rfl rfl rfl (.cons .here rfl (.cons .here rfl .nil)) rfl ?_
    refine va 5 rfl (Aa3 rfl (.head _) Ag0 rfl) rfl rfl rfl (.cons .here rfl (.cons .here rfl .nil)) rfl ?_
    refine va 6 rfl (Aa5 rfl) rfl rfl rfl (.cons .here rfl (.cons .here rfl .nil)) rfl ?_
    refine va 7 rfl (Aa5 rfl) rfl rfl rfl (.cons .here rfl (.cons .here rfl .nil)) rfl ?_
    refine va 8 rfl (Val.fieldAddr rfl Au5) rfl rfl rfl (.cons .here rfl (.cons .here rfl .nil)) rfl ?_
    refine va 9 rfl (Aa3 rfl (.tail _ (.head _)) Bd4 rfl) rfl rfl rfl (.cons .here rfl (.cons .here rfl .nil)) rfl ?_
    refine va 10 rfl (Val.fieldAddr rfl Au9) rfl rfl rfl (.cons .here rfl (.cons .here rfl .nil)) rfl ?_
    refine va 11 rfl (Aa3 rfl (.head _) Ag0 rfl) rfl rfl rfl (.cons .here rfl (.cons .here rfl .nil)) rfl ?_
    refine va 13 rfl (Aa5 rfl) rfl rfl rfl (.cons .here rfl (.cons .here rfl .nil)) rfl ?_
    refine va 14 rfl (Val.fieldAddr rfl Au8) rfl rfl rfl (.cons .here rfl (.cons .here rfl .nil)) rfl ?_
    refine va 15 rfl (Aa3 rfl (.head _) Ag0 rfl) rfl rfl rfl (.cons .here rfl (.cons .here rfl .nil)) rfl ?_
    refine va 16 rfl (Val.build (parts := [(0, .tmp 51), (1, .tmp 53), (2, .const (.bool false))]) rfl Al4 AP5 rfl) rfl rfl rfl (.cons .here rfl (.cons .here rfl .nil)) rfl ?_
    refine Ae8 (rs := [12, 17]) (by kernel_rfl) (by simp) (by kernel_rfl) (fun m hm => ?_)
    simp only [List.mem_cons, List.not_mem_nil, or_false] at hm
    rcases hm with rfl | rfl
    ·refine Ac5 rfl (Ak3 (v := ownV (p.ow ka) (p.F ka).length) rfl rfl (fun w hm => hm.at (.tail _ (.tail _ (.head _)))) Ao4 Am4 (Aw9 hp ka)) rfl rfl rfl (Aa0 (.cons .here rfl (.cons .here rfl .nil)) (.cons .here rfl (.cons .here rfl .nil)) rfl ?_)
     refine RunA.one (i := 17) (by kernel_rfl) (by kernel_rfl) ?_
     refine Ac8 rfl (New.buildSlice (parts := [(0, .tmp 54)]) rfl Aq7 Al4 rfl rfl rfl rfl) rfl rfl rfl (fun b55 => (Aa0 (.cons .here rfl (.cons .here rfl (.cons .here rfl .nil))) (.cons (.there .here) rfl (.cons (.there .here) rfl .nil)) rfl ?_))
     refine RunA.one (i := 18) (by kernel_rfl) (by kernel_rfl) ?_
     refine RunI.append (A := [(b55, _), (b9, _), (b29, _), (b27, _)]) (B := _) (x := (p.ow ka)) (ys := (Lk.cells ⟨k, (kb.val : Int), false⟩)) rfl AN1 rfl rfl rfl (hp.own ka) rfl (fun h => by cases h) (fun w hm => Ak1 (hm.at (.head _))) (Ao6 rfl) (by simp only [maxLen]; omega) (by omega) rfl (fun z56 hz56 => (Aa0 (.cons .here rfl (.cons .here rfl (.cons .here rfl .nil))) (.cons .here rfl (.cons .here rfl (.cons .here rfl .nil))) rfl ?_))
     refine Af4 (by kernel_rfl) ?_
     refine RunB.one (i := 19) (by kernel_rfl) ?_
     refine Ab9 rfl (AF5 hpn (k := ka) (z := z56) (l := addA p k ka kb) rfl rfl rfl (AJ1 ..).symm Ao4 (.there (.there (.there .here)))) rfl rfl (Ab1 ?_)
     refine RunB.done (by kernel_rfl) ?_
     rw [AF3]
     exact Ag1 z56 (by rw [← AF3, AJ1]; exact hz56) rfl (Sub.cons (t := 7) rfl (Sub.cons (t := 8) rfl (Sub.cons (t := 9) rfl (Sub.cons (t := 31) rfl (Sub.cons (t := 32) rfl (Sub.cons (t := 33) rfl (Sub.nil _))))))) (.cons (.there (.there (.there .here))) rfl (.cons (.there .here) rfl (.cons (.there .here) rfl (Pick.skip (Bj6 _ p ka kb z56 (addA p k ka kb))))))
    refine Ac8 rfl (New.buildSlice (parts := [(0, .tmp 54)]) rfl Aq7 Al4 rfl rfl rfl rfl) rfl rfl rfl (fun b55 => (Aa0 (.cons .here rfl (.cons .here rfl (.cons .here rfl .nil))) (.cons (.there .here) rfl (.cons (.there .here) rfl .nil)) rfl ?_))
    refine RunA.one (i := 12) (by kernel_rfl) (by kernel_rfl) ?_
    refine Ac5 rfl (Ak3 (v := ownV (p.ow ka) (p.F ka).length) rfl rfl (fun w hm => hm.at (.tail _ (.tail _ (.tail _ (.head _))))) Ao4 Am4 (Aw9 hp ka)) rfl rfl rfl (Aa0 (.cons .here rfl (.cons .here rfl (.cons .here rfl .nil))) (.cons .here rfl (.cons .here rfl (.cons .here rfl .nil))) rfl ?_)
    refine RunA.one (i := 18) (by kernel_rfl) (by kernel_rfl) ?_
    refine RunI.append (A := [(b55, _), (b9, _), (b29, _), (b27, _)]) (B := _) (x := (p.ow ka)) (ys := (Lk.cells ⟨k, (kb.val : Int), false⟩)) rfl AN1 rfl rfl rfl (hp.own ka) rfl (fun h => by cases h) (fun w hm => Ak1 (hm.at (.head _))) (Ao6 rfl) (by simp only [maxLen]; omega) (by omega) rfl (fun z56 hz56 => (Aa0 (.cons .here rfl (.cons .here rfl (.cons .here rfl .nil))) (.cons .here rfl (.cons .here rfl (.cons .here rfl .nil))) rfl ?_))
    refine Af4 (by kernel_rfl) ?_
    refine RunB.one (i := 19) (by kernel_rfl) ?_
    refine Ab9 rfl (AF5 hpn (k := ka) (z := z56) (l := addA p k ka kb) rfl rfl rfl (AJ1 ..).symm Ao4 (.there (.there (.there .here)))) rfl rfl (Ab1 ?_)
    refine RunB.done (by kernel_rfl) ?_
    rw [AF3]
    exact Ag1 z56 (by rw [← AF3, AJ1]; exact hz56) rfl (Sub.cons (t := 7) rfl (Sub.cons (t := 8) rfl (Sub.cons (t := 9) rfl (Sub.cons (t := 31) rfl (Sub.cons (t := 32) rfl (Sub.cons (t := 33) rfl (Sub.nil _))))))) (.cons (.there (.there (.there .here))) rfl (.cons (.there .here) rfl (.cons (.there .here) rfl (Pick.skip (Bj6 _ p ka kb z56 (addA p k ka kb))))))
   intro z1 z1I
   have hFb : ((putA p k ka kb z1).F kb).length ≤ 20 := by (rw [Bo3 hab, hpF]; have h9 := AD5 c.sg.l (kb.val : Int) k; omega)
   refine RunE.next ?_
   refine Ap2 (X := Eng.Own) 19 (n0 := [(b29, _)]) (fun z2 q => q) (fun z2 => []) (fun z2 => [(b27, mapO (putB p k ka kb z1 z2).ents)]) (fun z2 => tlP 120 (putB p k ka kb z1 z2)) (fun z2 => OwnOk 3 z2 (addB p k ka kb z1).length ((addB p k ka kb z1).map Lk.cells).flatten) Al3 (.cons (.there .here) rfl (.cons (.there .here) rfl .nil)) (Sub.cons (t := 7) rfl (Sub.cons (t := 31) rfl (Sub.cons (t := 32) rfl (Sub.cons (t := 33) rfl (Sub.nil _))))) (.cons (.there (.there .here)) rfl .nil) ?_ ?_
   ·refine va 0 rfl (Aa5 rfl) rfl rfl rfl (.cons (.there .here) rfl (.cons (.there .here) rfl .nil)) rfl ?_
    refine va 1 rfl (Aa5 rfl) rfl rfl rfl (.cons (.there .here) rfl (.cons (.there .here) rfl .nil)) rfl ?_
    refine va 2 rfl (Val.fieldAddr rfl Au5) rfl rfl rfl (.cons (.there .here) rfl (.cons (.there .here) rfl .nil)) rfl ?_
    refine va 3 rfl (Aa3 rfl (.tail _ (.head _)) Bd4 rfl) rfl rfl rfl (.cons (.there .here) rfl (.cons (.there .here) rfl .nil)) rfl ?_
    refine va 4 rfl (Val.fieldAddr rfl Au8) rfl rfl rfl (.cons (.there .here) rfl (.cons (.there .here) rfl .nil)) rfl ?_
    refine va 5 rfl (Aa3 rfl (.head _) Ag0 rfl) rfl rfl rfl (.cons (.there .here) rfl (.cons (.there .here) rfl .nil)) rfl ?_
    refine va 6 rfl (Aa5 rfl) rfl rfl rfl (.cons (.there .here) rfl (.cons (.there .here) rfl .nil)) rfl ?_
    refine va 7 rfl (Aa5 rfl) rfl rfl rfl (.cons (.there .here) rfl (.cons (.there .here) rfl .nil)) rfl ?_
    refine va 8 rfl (Val.fieldAddr rfl Au5) rfl rfl rfl (.cons (.there .here) rfl (.cons (.there .here) rfl .nil)) rfl ?_
    refine va 9 rfl (Aa3 rfl (.tail _ (.head _)) Bd4 rfl) rfl rfl rfl (.cons (.there .here) rfl (.cons (.there .here) rfl .nil)) rfl ?_
    refine va 10 rfl (Val.fieldAddr rfl Au8) rfl rfl rfl (.cons (.there .here) rfl (.cons (.there .here) rfl .nil)) rfl ?_
    refine va 11 rfl (Aa3 rfl (.head _) Ag0 rfl) rfl rfl rfl (.cons (.there .here) rfl (.cons (.there .here) rfl .nil)) rfl ?_
    refine va 13 rfl (Aa5 rfl) rfl rfl rfl (.cons (.there .here) rfl (.cons (.there .here) rfl .nil)) rfl ?_
    refine va 14 rfl (Val.fieldAddr rfl Au9) rfl rfl rfl (.cons (.there .here) rfl (.cons (.there .here) rfl .nil)) rfl ?_
    refine va 15 rfl (Aa3 rfl (.head _) Ag0 rfl) rfl rfl rfl (.cons (.there .here) rfl (.cons (.there .here) rfl .nil)) rfl ?_
    refine va 16 rfl (Val.build (parts := [(0, .tmp 70), (1, .tmp 72), (2, .const (.bool true))]) rfl Al4 AP5 rfl) rfl rfl rfl (.cons (.there .here) rfl (.cons (.there .here) rfl .nil)) rfl ?_
    refine Ae8 (rs := [12, 17]) (by kernel_rfl) (by simp) (by kernel_rfl) (fun m hm => ?_)
    simp only [List.mem_cons, List.not_mem_nil, or_false] at hm
    rcases hm with rfl | rfl
    ·refine Ac5 rfl (Ak3 (v := ownV ((putA p k ka kb z1).ow kb) ((putA p k ka kb z1).F kb).length) rfl rfl (fun w hm => hm.at (.head _)) Ao4 Am4 (Aw9 (AK9 hp z1I) kb)) rfl rfl rfl (Aa0 (.cons (.there .here) rfl (.cons (.there .here) rfl .nil)) (.cons .here rfl (.cons .here rfl .nil)) rfl ?_)
     refine RunA.one (i := 17) (by kernel_rfl) (by kernel_rfl) ?_
     refine Ac8 rfl (New.buildSlice (parts := [(0, .tmp 73)]) rfl Aq7 Al4 rfl rfl rfl rfl) rfl rfl rfl (fun b74 => (Aa0 (.cons .here rfl (.cons (.there .here) rfl (.cons (.there .here) rfl .nil))) (.cons (.there .here) rfl (.cons (.there .here) rfl .nil)) rfl ?_))
     refine RunA.one (i := 18) (by kernel_rfl) (by kernel_rfl) ?_
     refine RunI.append (A := [(b74, _), (b27, _), (b9, _), (b29, _)]) (B := _) (x := ((putA p k ka kb z1).ow kb)) (ys := (Lk.cells ⟨k, (ka.val : Int), true⟩)) rfl AN1 rfl rfl rfl ((AK9 hp z1I).own kb) rfl (fun h => by cases h) (fun w hm => Ak1 (hm.at (.head _))) (Ao6 rfl) (by simp only [maxLen]; omega) (by omega) rfl (fun z75 hz75 => (Aa0 (.cons .here rfl (.cons (.there .here) rfl (.cons (.there .here) rfl .nil))) (.cons .here rfl (.cons .here rfl (.cons .here rfl .nil))) rfl ?_))
     refine Af4 (by kernel_rfl) ?_
     refine RunB.one (i := 19) (by kernel_rfl) ?_
     refine Ab9 rfl (AF5 (Be4 hpn k ka kb z1) (k := kb) (z := z75) (l := addB p k ka kb z1) rfl rfl rfl (AJ0 ..).symm Ao4 (.there .here)) rfl rfl (Ab1 ?_)
     refine RunB.done (by kernel_rfl) ?_
     rw [AF2]
     exact Ag1 z75 (by rw [← AF2, AJ0]; exact hz75) rfl (Sub.cons (t := 7) rfl (Sub.cons (t := 31) rfl (Sub.cons (t := 32) rfl (Sub.cons (t := 33) rfl (Sub.nil _))))) (.cons (.there .here) rfl (.cons (.there (.there .here)) rfl (Pick.skip (Pick.skip (AY4 _ (putA p k ka kb z1) kb z75 (addB p k ka kb z1))))))
    refine Ac8 rfl (New.buildSlice (parts := [(0, .tmp 73)]) rfl Aq7 Al4 rfl rfl rfl rfl) rfl rfl rfl (fun b74 => (Aa0 (.cons .here rfl (.cons (.there .here) rfl (.cons (.there .here) rfl .nil))) (.cons (.there .here) rfl (.cons (.there .here) rfl .nil)) rfl ?_))
    refine RunA.one (i := 12) (by kernel_rfl) (by kernel_rfl) ?_
    refine Ac5 rfl (Ak3 (v := ownV ((putA p k ka kb z1).ow kb) ((putA p k ka kb z1).F kb).length) rfl rfl (fun w hm => hm.at (.tail _ (.head _))) Ao4 Am4 (Aw9 (AK9 hp z1I) kb)) rfl rfl rfl (Aa0 (.cons .here rfl (.cons (.there .here) rfl (.cons (.there .here) rfl .nil))) (.cons .here rfl (.cons .here rfl (.cons .here rfl .nil))) rfl ?_)
    refine RunA.one (i := 18) (by kernel_rfl) (by kernel_rfl) ?_
    refine RunI.append (A := [(b74, _), (b27, _), (b9, _), (b29, _)]) (B := _) (x := ((putA p k ka kb z1).ow kb)) (ys := (Lk.cells ⟨k, (ka.val : Int), true⟩)) rfl AN1 rfl rfl rfl ((AK9 hp z1I).own kb) rfl (fun h => by cases h) (fun w hm => Ak1 (hm.at (.head _))) (Ao6 rfl) (by simp only [maxLen]; omega) (by omega) rfl (fun z75 hz75 => (Aa0 (.cons .here rfl (.cons (.there .here) rfl (.cons (.there .here) rfl .nil))) (.cons .here rfl (.cons .here rfl (.cons .here rfl .nil))) rfl ?_))
    refine Af4 (by kernel_rfl) ?_
    refine RunB.one (i := 19) (by kernel_rfl) ?_
    refine Ab9 rfl (AF5 (Be4 hpn k ka kb z1) (k := kb) (z := z75) (l := addB p k ka kb z1) rfl rfl rfl (AJ0 ..).symm Ao4 (.there .here)) rfl rfl (Ab1 ?_)
    refine RunB.done (by kernel_rfl) ?_
    rw [AF2]
    exact Ag1 z75 (by rw [← AF2, AJ0]; exact hz75) rfl (Sub.cons (t := 7) rfl (Sub.cons (t := 31) rfl (Sub.cons (t := 32) rfl (Sub.cons (t := 33) rfl (Sub.nil _))))) (.cons (.there .here) rfl (.cons (.there (.there .here)) rfl (Pick.skip (Pick.skip (AY4 _ (putA p k ka kb z1) kb z75 (addB p k ka kb z1))))))
   intro z2 z2I
   refine Ad0 ?_
   refine RunE.next ?_
   refine RunC.region ?_
   refine Aa1 (Val.add rfl rfl (IntWalk.i64_in _ ⟨by omega, by omega⟩)) rfl rfl rfl ?_
   refine vp rfl rfl rfl rfl ?_
   refine RunL.nil ?_
   exact Ag2 (putB p k ka kb z1 z2) (by omega) ⟨BS5 hp z1I z2I, BS6 hpn k ka kb z1 z2, Bx3 hpF hab hsd rfl rfl z1 z2⟩ rfl (Ad4 (t := 33) rfl rfl (Sub.cons (t := 7) rfl (Sub.cons (t := 31) rfl (Sub.cons (t := 32) rfl (Sub.nil _))))) (.cons .here rfl (.cons .here rfl (Pick.refl _)))
  intro c1
  have c1' := c1; clear c1
  try simp only [nH] at c1'
  obtain rfl : k = c.sg.l.length := by omega
  refine RunC.exit ?_
  refine Ac0 ?_
  refine Ac0 ?_
  refine Ab2 ?_
  refine RunE.next ?_
  refine csr ?_
  refine vp rfl rfl rfl rfl ?_
  refine vp rfl rfl rfl rfl ?_
  refine nnx ?_
  refine RunC.ret ?_
  exact Bs4 (a := ()) (⟨⟨b29, b27, p⟩, hp, hpF⟩ : OpenT c.pl) (.r1 rfl (.tmp rfl)) (by unfold openC; rw [if_pos ok12, if_neg (by simp [kI])]) rfl (.cons (.there .here) rfl (.cons .here rfl (Pick.same (List.append_nil _))))
end Go.Proofs.YthbiaipagceokaaGreat
namespace Go.Proofs.YthbiaipagceokaaGreat
open Go Go.Eng
theorem Bl4 : Enters Tryz.prog 34 := Aa6 Tryz.func34 (by kernel_rfl) rfl
theorem BB3 : Enters Tryz.prog 52 := Aa6 Tryz.func52 (by kernel_rfl) rfl
theorem An4 : fieldB Tryz.prog 120 1 = some 1 := by kernel_rfl
instance : Fld Tryz.prog 120 1 1 := ⟨An4⟩
theorem Au2 : mapB Tryz.prog 95 = some 3 := by kernel_rfl
theorem AH6 : tyB Tryz.prog 82 = some (true, 1) := by kernel_rfl
instance : Tyc Tryz.prog 82 true 1 := ⟨AH6⟩
theorem AA4 : zeroV Tryz.prog 3 = some (.int .i64 0) := by kernel_rfl
end Go.Proofs.YthbiaipagceokaaGreat
namespace Go.Ct
open Go Go.Eng Go.Pw1
theorem BC9 (s k : Nat) : decide (((s >>> k &&& 1 : Nat) : Int) = 1) = s.testBit k := by
  have h : (s >>> k &&& 1 : Nat) = (s.testBit k).toNat := by
    rw [Nat.and_one_is_mod, Nat.testBit_eq_decide_div_mod_eq, Nat.shiftRight_eq_div_pow]
    by_cases h : s / 2 ^ k % 2 = 1
    · simp [h]
    · simp [h]; omega
  rw [h]
  cases s.testBit k <;> simp
theorem AD4 (m : Im) (k : Int) : Value.tuple #[(mFind (iv m) k).getD (.int .i64 0), .bool (mFind (iv m) k).isSome] = .tuple #[.int .i64 ((iFind m k).getD 0), .bool (iFind m k).isSome] := by
  rw [By5]
  cases iFind m k <;> rfl
theorem Cf2 (m : Im) (k : Int) : (mFind (iv m) k).getD (.int .i64 0) = .int .i64 ((iFind m k).getD 0) := by
  rw [By5]
  cases iFind m k <;> rfl
theorem BY3 {c : Ch} {nx : Bool} {out : Nat} {m : Im} {k : Nat} (h : (iFind m (k : Int)).isSome = false) : atX c nx out m k = m := by
  unfold atX
  cases hf : iFind m (k : Int) with
  | none => rfl
  | some n => rw [hf] at h; cases h
theorem BY2 {c : Ch} {nx : Bool} {out : Nat} {m : Im} {k : Nat} {n : Int} (h : (iFind m (k : Int)).isSome = true) (hn : (iFind m (k : Int)).getD 0 = n) : atX c nx out m k = (lks c (k : Int)).foldl (stepX c nx out n) m := by
  unfold atX
  cases hf : iFind m (k : Int) with
  | none => rw [hf] at h; cases h
  | some n' => rw [hf] at hn; cases hn; rfl
theorem AV4 {c : Ch} {nx : Bool} {out : Nat} {m : Im} {n : Nat} : atsX c nx out m (n + 1) = atX c nx out (atsX c nx out m n) n := by
  unfold atsX
  rw [List.range_succ, List.foldl_append]
  rfl
theorem Bz0 {α β : Type} {f : β → α → β} {l : List α} {i : Nat} {b : β} (hi : i < l.length) : (l.take (i + 1)).foldl f b = f ((l.take i).foldl f b) l[i] := by
  rw [List.take_succ_eq_append_getElem hi, List.foldl_append]
  rfl
theorem BG4 {c : Ch} {nx : Bool} {out : Nat} {n : Int} {m : Im} {l : Lk} (h : out.testBit l.s = true) : stepX c nx out n m l = m := by unfold stepX; rw [if_pos h]
theorem BG3 {c : Ch} {nx : Bool} {out : Nat} {n v : Int} {m : Im} {l : Lk} (h : out.testBit l.s = false) (hv : n + (spanL c nx l).hi = v) (h2 : (iFind m l.to).isSome = false ∨ v < (iFind m l.to).getD 0) : stepX c nx out n m l = iSet m l.to v := by
  unfold stepX putX
  rw [if_neg (by rw [h]; decide), hv]
  cases hf : iFind m l.to with
  | none => rfl
  | some o =>
    rw [hf] at h2
    exact if_pos (h2.resolve_left (by simp))
theorem BG5 {c : Ch} {nx : Bool} {out : Nat} {n v : Int} {m : Im} {l : Lk} (h : out.testBit l.s = false) (hv : n + (spanL c nx l).hi = v) (h2 : (iFind m l.to).isSome = true ∧ ¬ v < (iFind m l.to).getD 0) : stepX c nx out n m l = m := by
  unfold stepX putX
  rw [if_neg (by rw [h]; decide), hv]
  cases hf : iFind m l.to with
  | none => rw [hf] at h2; cases h2.1
  | some o =>
    rw [hf] at h2
    exact if_neg h2.2
theorem Br5 {c : Ch} (hc : ChOk c) (fr : Int) (nx : Bool) (out : Nat) {k v : Int} (h : iFind (boundsX c fr nx out) k = some v) : -70000000000 ≤ v ∧ v ≤ 70000000000 := by
  have h1 := (Bnd.rnds hc (Bnd.one fr) nx out c.st.toNat) k v h
  have := hc.st
  omega
theorem AN0 {c : Ch} (hc : ChOk c) (fr : Int) (nx : Bool) (out : Nat) (k : Int) : -70000000000 ≤ (iFind (boundsX c fr nx out) k).getD 0 ∧ (iFind (boundsX c fr nx out) k).getD 0 ≤ 70000000000 := by
  cases h : iFind (boundsX c fr nx out) k with
  | none => exact ⟨by decide, by decide⟩
  | some v => exact Br5 hc fr nx out h
def betwX (c : Ch) (fr to : Int) (nx : Bool) (out : Nat) : Except Int Pw1.Sp := match iFind (boundsX c fr nx out) to with
  | none => .error 12
  | some hi => .ok ⟨-(iFind (boundsX c to nx out) fr).getD 0, hi⟩
def exV {α : Type} (f : α → Value) : Except Int α → Except Int Value
  | .error k => .error k
  | .ok a => .ok (f a)
theorem BX7 {c : Ch} {fr to : Int} {nx : Bool} {out : Nat} (h : (iFind (boundsX c fr nx out) to).isSome = false) : betwX c fr to nx out = .error 12 := by
  unfold betwX
  cases hf : iFind (boundsX c fr nx out) to with
  | none => rfl
  | some v => rw [hf] at h; cases h
theorem Az1 {c : Ch} {fr to : Int} {nx : Bool} {out : Nat} (h : (iFind (boundsX c fr nx out) to).isSome = true) : betwX c fr to nx out = .ok ⟨-(iFind (boundsX c to nx out) fr).getD 0, (iFind (boundsX c fr nx out) to).getD 0⟩ := by
  unfold betwX
  cases hf : iFind (boundsX c fr nx out) to with
  | none => rw [hf] at h; cases h
  | some v => rfl
end Go.Ct
namespace Go.Proofs.YthbiaipagceokaaGreat
open Go Go.Eng Go.Ct Go.RowKit
open Go.Pw1 (Ai5 Ah0 needX within idxF Ah2 Ap7 Ai1 Ag9 Ai7)
-- Ao4
-- Am4
-- Au2
-- AA4
set_option maxHeartbeats 2000000 in
theorem Ar2 (c : ChA) (hc : ChOk c.pl) (bv m : Nat) (es : List (Int × Value)) (fr : Int) (nx : Bool) (out : Nat) (ho : out < 1024) (W : World) (hS : c.Ok W) (hv : W.heap[bv]? = some (ctO c m)) (hF : FrOk W c.pl m es) :
    Calls Tryz.prog 34 #[pV bv, .int .i64 fr, axV nx, .int .u64 (out : Int)] W (News (fun b => .map (some b)) (fun b => [(b, mapO (iv (boundsX c.pl fr nx out)))]) W) := by
  have hst := hc.st
  have hst2 : 1 ≤ c.st ∧ c.st ≤ 8 := hst
  have hfew := hc.few
  refine Aa2 Tryz.func34 rfl rfl ?_
  refine csr ?_
  refine Ad9 (New.box rfl) rfl rfl rfl (fun b6 => ?_)
  refine vp rfl rfl rfl rfl ?_
  refine nsr ?_
  refine Ad9 New.makeMap rfl rfl rfl (fun b18 => ?_)
  refine vp rfl rfl rfl rfl ?_
  refine Aa9 (Bh3 (l := []) (v := .int .i64 0) rfl rfl rfl Au2 .here) rfl rfl ?_
  refine vp rfl rfl rfl rfl ?_
  refine vp rfl rfl rfl rfl ?_
  refine nnx ?_
  refine RunC.seq ?_
  refine csr ?_
  refine vp rfl rfl rfl rfl ?_
  refine vp rfl rfl rfl rfl ?_
  refine Aa1 (Val.fieldAddr rfl Au6) rfl rfl rfl ?_
  refine Aa1 (Val.fieldAddr rfl Aj9) rfl rfl rfl ?_
  refine Aa1 (Aa4 rfl hv (by simp) Ag0 rfl) rfl rfl rfl ?_
  refine vp rfl rfl rfl rfl ?_
  refine nnx ?_
  refine RunC.block ?_
  refine Af5 (c.st.toNat) (fun k q => (26, .int .i64 (k : Int)) :: q) (fun _ => _) (fun k => [(b18, mapO (iv (rndsX c.pl nx out [(fr, 0)] k)))]) (fun _ => True) trivial rfl (Ad4 (t := 26) rfl rfl (Sub.cons (t := 0) rfl (Sub.cons (t := 3) rfl (Sub.cons (t := 6) rfl (Sub.cons (t := 9) rfl (Sub.cons (t := 25) rfl (Sub.nil _))))))) (.cons .here rfl (.cons .here rfl .nil)) ?_
  intro k kN kI
  clear kI
  refine csr ?_
  refine vp rfl rfl rfl rfl ?_
  refine nnx ?_
  refine RunC.seq ?_
  refine RunC.cond rfl ?_ ?_
  ·intro c0
   have c0' := c0; clear c0
   try simp only [nH] at c0'
   have hk : k < c.st.toNat := by omega
   refine RunC.skip ?_
   refine RunE.next ?_
   refine RunC.seq ?_
   refine RunC.block ?_
   refine csr ?_
   refine vp rfl rfl rfl rfl ?_
   refine vp rfl rfl rfl rfl ?_
   refine Aa1 (Val.fieldAddr rfl Au6) rfl rfl rfl ?_
   refine Aa1 (Val.fieldAddr rfl Aj9) rfl rfl rfl ?_
   refine Aa1 (Aa4 rfl hv (by simp) Ag0 rfl) rfl rfl rfl ?_
   refine vp rfl rfl rfl rfl ?_
   refine nnx ?_
   refine RunC.block ?_
   refine Af5 (c.st.toNat) (fun j q => (33, .int .i64 (j : Int)) :: q) (fun _ => _) (fun j => [(b18, mapO (iv (atsX c.pl nx out (rndsX c.pl nx out [(fr, 0)] k) j)))]) (fun _ => True) trivial rfl (Ad4 (t := 33) rfl rfl (Sub.cons (t := 0) rfl (Sub.cons (t := 3) rfl (Sub.cons (t := 6) rfl (Sub.cons (t := 9) rfl (Sub.cons (t := 25) rfl (Sub.cons (t := 26) rfl (Sub.cons (t := 32) rfl (Sub.nil _))))))))) (.cons .here rfl (.cons .here rfl .nil)) ?_
   intro j jN jI
   clear jI
   refine csr ?_
   refine vp rfl rfl rfl rfl ?_
   refine nnx ?_
   refine RunC.seq ?_
   refine RunC.cond rfl ?_ ?_
   ·intro c1
    have c1' := c1; clear c1
    try simp only [nH] at c1'
    have hj : j < c.st.toNat := by omega
    obtain ⟨m0, hm0⟩ : ∃ m0, atsX c.pl nx out (rndsX c.pl nx out [(fr, 0)] k) j = m0 := ⟨_, rfl⟩
    rw [hm0]
    refine RunC.skip ?_
    refine RunE.next ?_
    refine RunC.seq ?_
    refine RunC.block ?_
    refine csr ?_
    refine vp rfl rfl rfl rfl ?_
    refine vp rfl rfl rfl rfl ?_
    refine nsr ?_
    refine vp rfl rfl rfl rfl ?_
    refine vp rfl rfl rfl rfl ?_
    refine Aa1 (Aj4 rfl rfl (fun w hm => hm.at (.head _)) Au2 AA4 (AD4 _ _)) rfl rfl rfl ?_
    iterate 5 refine vp rfl rfl rfl rfl ?_
    refine nnx ?_
    refine RunC.seq ?_
    refine csr ?_
    refine vp rfl rfl rfl rfl ?_
    refine vp rfl rfl rfl rfl ?_
    refine nnx ?_
    refine RunC.cond rfl ?_ ?_
    ·intro c2
     have c2' := c2; clear c2
     try simp only [nH] at c2'
     have hat := BY3 (c := c.pl) (nx := nx) (out := out) (m := m0) (k := j) (by simpa using c2')
     refine RunC.exit ?_
     refine Ac0 ?_
     refine Ab2 ?_
     refine RunE.next ?_
     refine RunC.region ?_
     refine Aa1 (Val.add rfl rfl (IntWalk.i64_in _ ⟨by omega, by omega⟩)) rfl rfl rfl ?_
     refine vp rfl rfl rfl rfl ?_
     refine RunL.nil ?_
     exact Ae4 (by omega) trivial rfl (Ad4 (t := 33) rfl rfl (Sub.cons (t := 0) rfl (Sub.cons (t := 3) rfl (Sub.cons (t := 6) rfl (Sub.cons (t := 9) rfl (Sub.cons (t := 25) rfl (Sub.cons (t := 26) rfl (Sub.cons (t := 32) rfl (Sub.nil _))))))))) (.cons .here (by rw [AV4, hm0, hat]) (.cons .here rfl .nil))
    intro c2
    have c2' := c2; clear c2
    try simp only [nH] at c2'
    obtain ⟨n, hn⟩ : ∃ n, (iFind m0 (j : Int)).getD 0 = n := ⟨_, rfl⟩
    have his : (iFind m0 (j : Int)).isSome = true := by simpa using c2'
    have hat := BY2 (c := c.pl) (nx := nx) (out := out) (m := m0) (k := j) his hn
    have hnb : -100000000000 ≤ n ∧ n ≤ 100000000000 := by (have h1 : Bnd m0 _ := hm0 ▸ Bnd.ats hc (Bnd.rnds hc (Bnd.one fr) nx out k) nx out j; have h2 := h1 (j : Int) n (by rw [← hn]; cases hf : iFind m0 (j : Int) with | none => rw [hf] at his; cases his | some v => rfl); omega)
    obtain ⟨q, b, o, cap, hsl1, hsl2⟩ := hF.at' (j : Int)
    have hll : (lks c.pl (j : Int)).length ≤ 20 := by (have h9 := AD5 c.pl.sg (j : Int) c.pl.sg.length; unfold lks; omega)
    rw [hn]
    refine RunC.skip ?_
    refine RunE.next ?_
    refine csr ?_
    refine vp rfl rfl rfl rfl ?_
    refine vp rfl rfl rfl rfl ?_
    refine Aa1 (Val.fieldAddr rfl Au5) rfl rfl rfl ?_
    refine Aa1 (Aa4 rfl hv (by simp) Bd4 rfl) rfl rfl rfl ?_
    refine vp rfl rfl rfl rfl ?_
    refine Aa1 (Ak3 (v := .slice q (lks c.pl (j : Int)).length cap) rfl rfl (fun w hm => (hF.mono0 hm).map) Ao4 Am4 hsl1) rfl rfl rfl ?_
    refine Aa1 (Ag7 rfl Aq7) rfl rfl rfl ?_
    refine vp rfl rfl rfl rfl ?_
    refine nnx ?_
    refine RunC.block ?_
    refine Af5 ((lks c.pl (j : Int)).length) (fun i q => (51, .int .i64 (i : Int)) :: q) (fun _ => _) (fun i => [(b18, mapO (iv (((lks c.pl (j : Int)).take i).foldl (stepX c.pl nx out n) m0)))]) (fun _ => True) trivial rfl (Ad4 (t := 51) rfl rfl (Sub.cons (t := 0) rfl (Sub.cons (t := 3) rfl (Sub.cons (t := 6) rfl (Sub.cons (t := 9) rfl (Sub.cons (t := 11) rfl (Sub.cons (t := 25) rfl (Sub.cons (t := 26) rfl (Sub.cons (t := 32) rfl (Sub.cons (t := 33) rfl (Sub.cons (t := 49) rfl (Sub.cons (t := 50) rfl (Sub.nil _))))))))))))) (.cons .here rfl (.cons .here rfl .nil)) ?_
    intro i iN iI
    clear iI
    refine csr ?_
    refine vp rfl rfl rfl rfl ?_
    refine nnx ?_
    refine RunC.seq ?_
    refine RunC.cond rfl ?_ ?_
    ·intro c3
     have c3' := c3; clear c3
     try simp only [nH] at c3'
     have hi : i < (lks c.pl (j : Int)).length := by omega
     obtain ⟨lk, hlk⟩ : ∃ l, (lks c.pl (j : Int))[i] = l := ⟨_, rfl⟩
     have hlo : LkOk c.pl lk := Bx7 hc (hlk ▸ List.getElem_mem hi)
     have hlos := hlo.s
     have hsr := AC7 hc nx hlo
     obtain ⟨M, hM⟩ : ∃ M, ((lks c.pl (j : Int)).take i).foldl (stepX c.pl nx out n) m0 = M := ⟨_, rfl⟩
     have hand := Nat.and_le_right (n := out >>> lk.s) (m := 1)
     have hshr : out >>> lk.s ≤ out := by (rw [Nat.shiftRight_eq_div_pow]; exact Nat.div_le_self _ _)
     rw [hM]
     refine RunC.skip ?_
     refine RunE.next ?_
     refine RunC.seq ?_
     refine RunC.block ?_
     refine csr ?_
     refine Aa1 (Ab0 rfl rfl Aq7 (by omega) (by omega) (hsl2.ptrM hi)) rfl rfl rfl ?_
     refine Aa1 (Ab8 rfl (fun w hm => hsl2.loadX (by decide) hm (by simp) Az8 hi hlk)) rfl rfl rfl ?_
     refine Ad9 (New.alloc Al4) rfl rfl rfl (fun b14 => ?_)
     refine Aa9 (Sto.store rfl rfl .here Az8 rfl rfl) rfl rfl ?_
     refine nnx ?_
     refine RunC.seq ?_
     refine csr ?_
     refine vp rfl rfl rfl rfl ?_
     refine Aa1 (Val.fieldAddr rfl Ba3) rfl rfl rfl ?_
     refine Aa1 (Aa3 rfl (.head _) Ag0 rfl) rfl rfl rfl ?_
     refine Aa1 (AV8 (a := out) (b := lk.s) rfl rfl (by show lk.s ≤ 64; omega)) rfl rfl rfl ?_
     refine Aa1 (Val.and (a := out >>> lk.s) (b := 1) rfl rfl (by show _ < 18446744073709551616; omega) (by decide) (u64_in (by omega))) rfl rfl rfl ?_
     refine vp rfl rfl rfl rfl ?_
     refine nnx ?_
     refine RunC.cond rfl ?_ ?_
     ·intro c4
      have c4' := c4; clear c4
      try simp only [nH] at c4'
      have hstp := BG4 (c := c.pl) (nx := nx) (out := out) (n := n) (m := M) (l := lk) (by rw [← BC9]; simpa using c4')
      refine RunC.exit ?_
      refine Ac0 ?_
      refine Ab2 ?_
      refine RunE.next ?_
      refine RunC.region ?_
      refine Aa1 (Val.add rfl rfl (IntWalk.i64_in _ ⟨by omega, by omega⟩)) rfl rfl rfl ?_
      refine vp rfl rfl rfl rfl ?_
      refine RunL.nil ?_
      exact Ae4 (by omega) trivial rfl (Ad4 (t := 51) rfl rfl (Sub.cons (t := 0) rfl (Sub.cons (t := 3) rfl (Sub.cons (t := 6) rfl (Sub.cons (t := 9) rfl (Sub.cons (t := 11) rfl (Sub.cons (t := 25) rfl (Sub.cons (t := 26) rfl (Sub.cons (t := 32) rfl (Sub.cons (t := 33) rfl (Sub.cons (t := 49) rfl (Sub.cons (t := 50) rfl (Sub.nil _))))))))))))) (.cons (.there .here) (by rw [Bz0 hi, hlk, hM, hstp]; try rw [Bk4]) (.cons (.there .here) rfl .nil))
     intro c4
     have c4' := c4; clear c4
     try simp only [nH] at c4'
     have hb : out.testBit lk.s = false := by (rw [← BC9]; simpa using c4')
     refine RunC.skip ?_
     refine RunE.next ?_
     refine csr ?_
     refine vp rfl rfl rfl rfl ?_
     refine vp rfl rfl rfl rfl ?_
     refine Aa1 (Ac4 rfl (.head _) Az8 rfl) rfl rfl rfl ?_
     refine Aa1 (Ac4 rfl (.tail _ (.tail _ (.head _))) AH6 rfl) rfl rfl rfl ?_
     refine Ab3 (Ab7 rfl BB3) rfl rfl rfl (fun w hm => AF8 c hc bv m lk hlo nx w (hS.mono0 hm) (hm.old_at hv (by simp))) ?_
     refine Aa1 (Val.field rfl AB5 rfl) rfl rfl rfl ?_
     refine Aa1 (Val.add rfl rfl (IntWalk.i64_in _ ⟨by omega, by omega⟩)) rfl rfl rfl ?_
     refine vp rfl rfl rfl rfl ?_
     refine nsr ?_
     refine vp rfl rfl rfl rfl ?_
     refine Aa1 (Val.fieldAddr rfl An4) rfl rfl rfl ?_
     refine Aa1 (Aa3 rfl (.head _) Ag0 rfl) rfl rfl rfl ?_
     refine Aa1 (Aj4 rfl rfl (fun w hm => hm.at (.tail _ (.head _))) Au2 AA4 (AD4 _ _)) rfl rfl rfl ?_
     iterate 5 refine vp rfl rfl rfl rfl ?_
     refine nsr ?_
     iterate 3 refine vp rfl rfl rfl rfl ?_
     refine Ad3 (dj := 77) (dp := 81) 4 rfl (fun g77 => by
       have g77' := g77
       try simp only [nH] at g77'
       iterate 4 refine vp rfl rfl rfl rfl ?_
       exact Ac2 (Sub.cons rfl (Sub.skip rfl (Sub.skip rfl (Sub.skip rfl (Sub.skip rfl (Ad8 rfl (by rw [g77]) (Ab5 _))))))) (List.Sublist.refl _)
     ) (fun g77 => by
       have g77' := g77
       try simp only [nH] at g77'
       iterate 3 refine Ac6 rfl rfl rfl ?_
       refine vp rfl rfl rfl rfl ?_
       exact Ac2 (Sub.cons rfl (Sub.skip rfl (Sub.skip rfl (Sub.skip rfl (Sub.skip rfl (Ad8 rfl (by rw [g77]) (Ab5 _))))))) (List.Sublist.refl _)
     ) ?_
     refine nnx ?_
     refine RunC.cond rfl ?_ ?_
     ·intro c5
      have c5' := c5; clear c5
      try simp only [nH] at c5'
      have hstp := BG3 (c := c.pl) (nx := nx) (n := n) (m := M) (l := lk) hb rfl (by simpa using c5')
      refine RunC.region ?_
      refine vp rfl rfl rfl rfl ?_
      refine Aa1 (Val.fieldAddr rfl An4) rfl rfl rfl ?_
      refine Aa1 (Aa3 rfl (.head _) Ag0 rfl) rfl rfl rfl ?_
      refine vp rfl rfl rfl rfl ?_
      refine Aa9 (AR4 (l := iv M) (v := .int .i64 (n + (spanL c.pl nx lk).hi)) rfl rfl rfl Au2 (.there .here)) rfl rfl ?_
      refine RunL.nil ?_
      refine Ad0 ?_
      refine RunE.next ?_
      refine RunC.region ?_
      refine Aa1 (Val.add rfl rfl (IntWalk.i64_in _ ⟨by omega, by omega⟩)) rfl rfl rfl ?_
      refine vp rfl rfl rfl rfl ?_
      refine RunL.nil ?_
      exact Ae4 (by omega) trivial rfl (Ad4 (t := 51) rfl rfl (Sub.cons (t := 0) rfl (Sub.cons (t := 3) rfl (Sub.cons (t := 6) rfl (Sub.cons (t := 9) rfl (Sub.cons (t := 11) rfl (Sub.cons (t := 25) rfl (Sub.cons (t := 26) rfl (Sub.cons (t := 32) rfl (Sub.cons (t := 33) rfl (Sub.cons (t := 49) rfl (Sub.cons (t := 50) rfl (Sub.nil _))))))))))))) (.cons (.there .here) (by rw [Bz0 hi, hlk, hM, hstp]; try rw [Bk4]) (.cons (.there .here) rfl .nil))
     intro c5
     have c5' := c5; clear c5
     try simp only [nH] at c5'
     have hstp := BG5 (c := c.pl) (nx := nx) (n := n) (m := M) (l := lk) hb rfl (by simpa using c5')
     refine RunC.skip ?_
     refine Ad0 ?_
     refine RunE.next ?_
     refine RunC.region ?_
     refine Aa1 (Val.add rfl rfl (IntWalk.i64_in _ ⟨by omega, by omega⟩)) rfl rfl rfl ?_
     refine vp rfl rfl rfl rfl ?_
     refine RunL.nil ?_
     exact Ae4 (by omega) trivial rfl (Ad4 (t := 51) rfl rfl (Sub.cons (t := 0) rfl (Sub.cons (t := 3) rfl (Sub.cons (t := 6) rfl (Sub.cons (t := 9) rfl (Sub.cons (t := 11) rfl (Sub.cons (t := 25) rfl (Sub.cons (t := 26) rfl (Sub.cons (t := 32) rfl (Sub.cons (t := 33) rfl (Sub.cons (t := 49) rfl (Sub.cons (t := 50) rfl (Sub.nil _))))))))))))) (.cons (.there .here) (by rw [Bz0 hi, hlk, hM, hstp]; try rw [Bk4]) (.cons (.there .here) rfl .nil))
    intro c3
    have c3' := c3; clear c3
    try simp only [nH] at c3'
    obtain rfl : i = (lks c.pl (j : Int)).length := by omega
    rw [List.take_length]
    refine RunC.exit ?_
    refine Ac0 ?_
    refine Ac0 ?_
    refine Ab2 ?_
    refine Ad0 ?_
    refine RunE.next ?_
    refine RunC.region ?_
    refine Aa1 (Val.add rfl rfl (IntWalk.i64_in _ ⟨by omega, by omega⟩)) rfl rfl rfl ?_
    refine vp rfl rfl rfl rfl ?_
    refine RunL.nil ?_
    exact Ae4 (by omega) trivial rfl (Ad4 (t := 33) rfl rfl (Sub.cons (t := 0) rfl (Sub.cons (t := 3) rfl (Sub.cons (t := 6) rfl (Sub.cons (t := 9) rfl (Sub.cons (t := 25) rfl (Sub.cons (t := 26) rfl (Sub.cons (t := 32) rfl (Sub.nil _))))))))) (.cons .here (by rw [AV4, hm0, hat]) (.cons .here rfl .nil))
   intro c1
   have c1' := c1; clear c1
   try simp only [nH] at c1'
   obtain rfl : j = c.st.toNat := by omega
   refine RunC.exit ?_
   refine Ac0 ?_
   refine Ac0 ?_
   refine Ab2 ?_
   refine Ad0 ?_
   refine RunE.next ?_
   refine RunC.region ?_
   refine Aa1 (Val.add rfl rfl (IntWalk.i64_in _ ⟨by omega, by omega⟩)) rfl rfl rfl ?_
   refine vp rfl rfl rfl rfl ?_
   refine RunL.nil ?_
   exact Ae4 (by omega) trivial rfl (Ad4 (t := 26) rfl rfl (Sub.cons (t := 0) rfl (Sub.cons (t := 3) rfl (Sub.cons (t := 6) rfl (Sub.cons (t := 9) rfl (Sub.cons (t := 25) rfl (Sub.nil _))))))) (.cons .here rfl (.cons .here rfl .nil))
  intro c0
  have c0' := c0; clear c0
  try simp only [nH] at c0'
  obtain rfl : k = c.st.toNat := by omega
  refine RunC.exit ?_
  refine Ac0 ?_
  refine Ac0 ?_
  refine Ab2 ?_
  refine RunE.next ?_
  refine csr ?_
  refine vp rfl rfl rfl rfl ?_
  refine vp rfl rfl rfl rfl ?_
  refine nnx ?_
  refine RunC.ret ?_
  exact RunE.ret (chg := []) (.r1 rfl (.tmp rfl)) (fun _ hm => ⟨b18, rfl, hm.pick (.cons .here rfl .nil)⟩)
theorem Ao9 (c : ChA) (hc : ChOk c.pl) (bv m : Nat) (es : List (Int × Value)) (fr to : Int) (nx : Bool) (out : Nat) (ho : out < 1024) (W : World) (hS : c.Ok W) (hv : W.heap[bv]? = some (ctO c m)) (hF : FrOk W c.pl m es) :
    Calls Tryz.prog 32 #[pV bv, .int .i64 fr, .int .i64 to, axV nx, .int .u64 (out : Int)] W (Try cmisf (exV Pw1.Sp.v (betwX c.pl fr to nx out)) W) := by
  have hr1 := AN0 hc fr nx out to
  have hr2 := AN0 hc to nx out fr
  refine Aa2 Tryz.func32 rfl rfl ?_
  refine st ?_
  refine zn (New.box rfl) (fun b8 => ?_)
  refine zn (New.alloc Ac7) (fun b10 => ?_)
  refine Ai4 (zF rfl Bl4) rfl rfl rfl (fun w hm => Ar2 c hc bv m es _ nx out ho w (hS.mono0 hm) (hm.old_at hv (by simp)) (hF.mono0 hm)) (fun b18 => ?_)
  refine st ?_
  refine lv (Aj4 rfl rfl (fun w hm => hm.at (.head _)) Au2 AA4 (AD4 _ _)) ?_
  refine Am1 (zF rfl Bl2) rfl rfl rfl (fun w hm => Av4 _ _ w) (fun e24 he24 => ?_) (fun v24 hv24 => ?_)
  ·obtain ⟨er24, rfl⟩ := Ah0 he24
   refine Ab6 ?_
   exact AC0 (k := 12) (by rw [BX7 (by simpa using er24)]; rfl)
  obtain ⟨ok24, rfl⟩ := Ai5 hv24
  refine su ?_
  refine Ai4 (zF rfl Bl4) rfl rfl rfl (fun w hm => Ar2 c hc bv m es _ nx out ho w (hS.mono0 hm) (hm.old_at hv (by simp)) (hF.mono0 hm)) (fun b29 => ?_)
  refine st ?_
  refine lv (Ak3 rfl rfl (fun w hm => hm.at (.head _)) Au2 AA4 (Cf2 _ _)) ?_
  refine lv (Val.neg rfl (IntWalk.i64_in _ ⟨by omega, by omega⟩)) ?_
  refine lv (Val.build (parts := [(0, .tmp 32), (1, .tmp 33)]) rfl Ac7 Ah7 rfl) ?_
  refine Aa9 (Sto.store rfl rfl (.there (.there .here)) Ad7 rfl rfl) rfl rfl ?_
  refine su ?_
  exact BD8 (.r1 rfl (.agg rfl (.tail _ (.tail _ (.head _))) Ad7 rfl)) (by rw [Az1 (by simpa using ok24)]; rfl)
end Go.Proofs.YthbiaipagceokaaGreat
namespace Go.Proofs.YthbiaipagceokaaGreat
open Go Go.Eng
theorem BW4 : Enters Tryz.prog 102 := Aa6 Tryz.func102 (by kernel_rfl) rfl
theorem BS3 : Tryz.prog.underlying 118 = some (.slice 120) := by kernel_rfl
end Go.Proofs.YthbiaipagceokaaGreat
namespace Go.Ct
open Go Go.Eng Go.Pw1
/-! ## Circles in plain words -/
def lkBad (b : Int) (way : List Lk) (l : Lk) : Bool := decide (l.to < b) || way.any fun o => decide ((o.s : Int) = (l.s : Int))
def stepC (rec : Int → Nat → List Lk → List (List Lk)) (b : Int) (ps : Nat) (way : List Lk) (l : Lk) : List (List Lk) :=
  if lkBad b way l = true then [] else if l.to = b then [way ++ [l]] else if ps.testBit l.to.toNat = true then [] else rec l.to (ps ||| 2 ^ l.to.toNat) (way ++ [l])
def circ (c : Ch) (b : Int) : Nat → Int → Nat → List Lk → List (List Lk)
  | 0 => fun _ _ _ => []
  | f + 1 => fun k ps way => (lks c k).flatMap (stepC (circ c b f) b ps way)
def circA (c : Ch) (n : Nat) : List (List Lk) := (List.range n).flatMap fun (b : Nat) => circ c (b : Int) (c.sg.length + 1) (b : Int) (2 ^ b) []
def circs (c : Ch) : List (List Lk) := circA c c.st.toNat
theorem AU8 (c : Ch) (n : Nat) : circA c (n + 1) = circA c n ++ circ c (n : Int) (c.sg.length + 1) (n : Int) (2 ^ n) [] := by
  unfold circA
  rw [List.range_succ, List.flatMap_append]
  simp
structure WayOk (c : Ch) (way : List Lk) : Prop where
  nd : (way.map (·.s)).Nodup
  ok : ∀ l ∈ way, LkOk c l
theorem WayOk.nil (c : Ch) : WayOk c [] := ⟨List.nodup_nil, fun _ h => by cases h⟩
theorem Be9 : ∀ (n : Nat) (l : List Nat), l.Nodup → (∀ x ∈ l, x < n) → l.length ≤ n
  | 0, l, _, h => by
    cases l with
    | nil => exact Nat.le_refl _
    | cons x l => exact absurd (h x (List.mem_cons_self ..)) (by omega)
  | n + 1, l, hn, h => by
    by_cases hm : n ∈ l
    · have h1 := List.length_erase_of_mem hm
      have h2 := Be9 n (l.erase n) (hn.erase n) (fun x hx => by
        rw [hn.mem_erase_iff] at hx
        have := h x hx.2
        omega)
      omega
    · have h2 := Be9 n l hn (fun x hx => by
        have := h x hx
        have : x ≠ n := fun e => hm (e ▸ hx)
        omega)
      omega
theorem WayOk.len {c : Ch} {way : List Lk} (h : WayOk c way) : way.length ≤ c.sg.length := by
  have h1 := Be9 c.sg.length (way.map (·.s)) h.nd (fun x hx => by
    obtain ⟨l, hl, rfl⟩ := List.mem_map.1 hx
    exact (h.ok l hl).s)
  rwa [List.length_map] at h1
theorem WayOk.snoc {c : Ch} {way : List Lk} (h : WayOk c way) {l : Lk} (hl : LkOk c l) {b : Int} (hb : lkBad b way l = false) : WayOk c (way ++ [l]) := by
  unfold lkBad at hb
  simp only [Bool.or_eq_false_iff, List.any_eq_false, decide_eq_true_eq] at hb
  refine ⟨?_, fun x hx => ?_⟩
  · rw [List.map_append, List.nodup_append]
    refine ⟨h.nd, by simp, fun x hx y hy => ?_⟩
    simp only [List.map_cons, List.map_nil, List.mem_singleton] at hy
    obtain ⟨o, ho, rfl⟩ := List.mem_map.1 hx
    rw [hy]
    exact fun e => hb.2 o ho (by show ((o.s : Nat) : Int) = ((l.s : Nat) : Int); rw [e])
  · rcases List.mem_append.1 hx with hx | hx
    · exact h.ok x hx
    · rw [List.mem_singleton.1 hx]; exact hl
theorem Bk7 {α β : Type} {f : α → List β} {l : List α} {i : Nat} (hi : i < l.length) : (l.take (i + 1)).flatMap f = (l.take i).flatMap f ++ f l[i] := by
  rw [List.take_succ_eq_append_getElem hi, List.flatMap_append]
  simp
theorem BA7 {α β : Type} {f : α → List β} {l : List α} {i : Nat} (hi : i < l.length) : l.flatMap f = (l.take i).flatMap f ++ (f l[i] ++ (l.drop (i + 1)).flatMap f) := by
  conv => lhs; rw [← List.take_append_drop i l, List.drop_eq_getElem_cons hi]
  rw [List.flatMap_append, List.flatMap_cons]
section
variable {rec : Int → Nat → List Lk → List (List Lk)} {b : Int} {ps : Nat} {way : List Lk} {l : Lk}
theorem AK2 (h : lkBad b way l = true) : stepC rec b ps way l = [] := by unfold stepC; rw [if_pos h]
theorem Bu2 (h : lkBad b way l = false) (h2 : l.to = b) : stepC rec b ps way l = [way ++ [l]] := by unfold stepC; rw [if_neg (by rw [h]; decide), if_pos h2]
theorem AP1 (h : lkBad b way l = false) (h2 : l.to ≠ b) (h3 : ps.testBit l.to.toNat = true) : stepC rec b ps way l = [] := by unfold stepC; rw [if_neg (by rw [h]; decide), if_neg h2, if_pos h3]
theorem Bi7 (h : lkBad b way l = false) (h2 : l.to ≠ b) (h3 : ps.testBit l.to.toNat = false) : stepC rec b ps way l = rec l.to (ps ||| 2 ^ l.to.toNat) (way ++ [l]) := by unfold stepC; rw [if_neg (by rw [h]; decide), if_neg h2, if_neg (by rw [h3]; decide)]
end
/-! ## What is handed over -/
abbrev El := List Lk × Eng.Own
abbrev encE (x : El) : List Value := [ownV x.2 x.1.length]
abbrev ebE (T : TypeId) (x : El) : Blks := ownB T x.2 (x.1.map Lk.cells).flatten
def SpE (c : Ch) (total : List (List Lk)) (xs : List El) : Prop := ∀ x ∈ xs, x.1 ∈ total ∧ WayOk c x.1 ∧ OwnOk 3 x.2 x.1.length (x.1.map Lk.cells).flatten
theorem SpE.snoc {c : Ch} {total : List (List Lk)} {xs : List El} (h : SpE c total xs) {x : El} (h1 : x.1 ∈ total) (h2 : WayOk c x.1) (h3 : OwnOk 3 x.2 x.1.length (x.1.map Lk.cells).flatten) : SpE c total (xs ++ [x]) := fun y hy => by
  rcases List.mem_append.1 hy with hy | hy
  · exact h y hy
  · rw [List.mem_singleton.1 hy]; exact ⟨h1, h2, h3⟩
abbrev OCk (l : List Lk) := { z : Eng.Own // OwnOk 3 z l.length (l.map Lk.cells).flatten }
end Go.Ct
namespace Go.Proofs.YthbiaipagceokaaGreat
open Go Go.Eng Go.Ct Go.RowKit
open Go.Pw1 (Ai5 Ah0 needX within idxF Ah2 Ap7 Ai1 Ag9 Ai7)
theorem Bn6 (l o : Lk) (b : Nat) (W : World) (hb : W.heap[b]? = some (.cells l.cells.toArray 120 (0, 0))) : Calls Tryz.prog 77 #[o.v, pV b] W (Pure (.bool (decide ((o.s : Int) = (l.s : Int)))) W) := by
  refine Aa2 Tryz.func77 rfl rfl ?_
  refine st ?_
  refine zn (New.box rfl) (fun b2 => ?_)
  refine lu (Aa4 rfl hb (by simp) Ag0 rfl) ?_
  exact Aa7 (.r1 rfl (.tmp rfl)) (by first | rfl | simp)
theorem Bf5 (f : Lk → Bool) (l : List Lk) (q : Option Addr) (b o cap : Nat) (fn : FuncId) (cp : List Value) (W : World) (hS : Sl W q b o 3 (l.map Lk.cells)) (hl : l.length ≤ 100000000000) (he : Enters Tryz.prog fn)
    (hf : ∀ t ∈ l, ∀ w, Mem W [] [] w → Calls Tryz.prog fn ([t.v] ++ cp).toArray w (Pure (.bool (f t)) w)) :
    Calls Tryz.prog 102 #[.slice q l.length cap, .func (.func fn) #[] cp.toArray] W (Pure (.int .i64 (idxF f l)) W) := by
  refine Aa2 Tryz.func102 rfl rfl ?_
  refine su ?_
  refine Af5 (l.length) (fun k q => (8, .int .i64 (k : Int)) :: q) (fun _ => _) (fun _ => []) (fun k => (l.take k).any f = false) (by simp) rfl (zE 8 rfl rfl (zS 0 rfl (zS 1 rfl (zS 7 rfl (Sub.nil _))))) .nil ?_
  intro k kN kI
  refine st ?_
  refine cn rfl ?_ ?_
  ·intro c0'
   have hk : k < l.length := by omega
   refine st ?_
   refine lv (Ab0 rfl rfl Aq7 (by omega) (by omega) (hS.ptrM hk)) ?_
   refine lv (Ab8 rfl (fun w hm => hS.loadM (by decide) hm (by simp) Az8 hk)) ?_
   refine Ab3 (Ad1 rfl rfl he) rfl rfl rfl (fun w hm => hf _ (List.getElem_mem hk) w hm.drop) ?_
   refine st ?_
   refine cn rfl ?_ ?_
   ·intro c1'
    refine su ?_
    exact Aa7 (.r1 rfl (.tmp rfl)) (by rw [Ai1 f l k hk kI c1'])
   intro c1'
   refine st ?_
   refine lv (Val.add rfl rfl (IntWalk.i64_in _ ⟨by omega, by omega⟩)) ?_
   exact Ae4 (by omega) (Ah2 hk kI c1') rfl (zE 8 rfl rfl (zS 0 rfl (zS 1 rfl (zS 7 rfl (Sub.nil _))))) .nil
  intro c0'
  obtain rfl : k = l.length := by omega
  rw [List.take_length] at kI
  refine RunC.exit ?_
  refine su ?_
  refine Ab2 ?_
  refine su ?_
  exact Aa7 (.r1 rfl (.tmp rfl)) (by rw [Ag9 f l kI])
theorem Bh1 (f : Lk → Bool) (l : List Lk) (q : Option Addr) (b o cap : Nat) (fn : FuncId) (cp : List Value) (W : World) (hS : Sl W q b o 3 (l.map Lk.cells)) (hl : l.length ≤ 100000000000) (he : Enters Tryz.prog fn)
    (hf : ∀ t ∈ l, ∀ w, Mem W [] [] w → Calls Tryz.prog fn ([t.v] ++ cp).toArray w (Pure (.bool (f t)) w)) :
    Calls Tryz.prog 78 #[.slice q l.length cap, .func (.func fn) #[] cp.toArray] W (Pure (.bool (l.any f)) W) := by
  refine Aa2 Tryz.func78 rfl rfl ?_
  refine st ?_
  refine zc (zF rfl BW4) (fun w hm => Bf5 f l q b o cap fn cp w (hS.mono (by decide) hm (by simp)) hl he (fun t ht w2 hm2 => hf t ht w2 ((hm.drop).pass hm2))) ?_
  exact Aa7 (.r1 rfl (.tmp rfl)) (by rw [← Ai7])
theorem AE6 (l : List Lk) (hl : l.length ≤ 1000) (q : Option Addr) (b o cap : Nat) (W : World) (hS : Sl W q b o 3 (l.map Lk.cells)) (hq0 : q = none → cap = 0) : Calls Tryz.prog 79 #[.slice q l.length cap] W (News (fun z : OCk l => ownV z.1 l.length) (fun z => ownB 120 z.1 (l.map Lk.cells).flatten ++ []) W) := by
  cases q with
  | none =>
    have hn : l = [] := by
      cases l with
      | nil => rfl
      | cons a l => exact absurd (hS.at' (by simp)) (by simp)
    subst hn
    obtain rfl := hq0 rfl
    refine Aa2 Tryz.func79 rfl rfl ?_
    refine st ?_
    refine lv (AV9 (e := 120) rfl (by kernel_rfl)) ?_
    refine RunC.cond rfl ?_ (fun h => absurd h (by simp))
    intro c0
    clear c0
    refine su ?_
    exact RunE.ret (chg := []) (.r1 rfl (.tmp rfl)) (fun _ hm => ⟨⟨none, OwnOk.start⟩, rfl, hm⟩)
  | some ad =>
    have hfl : (l.map Lk.cells).flatten.length = l.length * 3 := Ay8 (f := Lk.cells) (fun _ => rfl) l
    refine Aa2 Tryz.func79 rfl rfl ?_
    refine st ?_
    refine lv (Bc3 rfl BS3) ?_
    refine RunC.cond rfl (fun h => absurd h (by simp)) ?_
    intro c0
    clear c0
    refine st ?_
    refine zn (Ax5 Aq7) (fun b5 => ?_)
    refine RunL.append (A := []) (B := _) (x := (some (b5, 0, []))) (ys := (l.map Lk.cells).flatten) AN1 rfl rfl rfl OwnOk.empty hfl (fun h => by cases h) (fun w hm => (hS.mono (by decide) hm (by simp)).flat (by decide)) (Bj8 (fun _ => rfl) _) (by simp only [maxLen]; omega) (by omega) rfl (fun z7 hz7 => ?_)
    refine su ?_
    exact RunE.ret (chg := []) (.r1 rfl (.tmp rfl)) (fun _ hm => ⟨⟨z7, by simpa using hz7⟩, by simp, hm.pick (Pick.refl _)⟩)
end Go.Proofs.YthbiaipagceokaaGreat
namespace Go.Proofs.YthbiaipagceokaaGreat
open Go Go.Eng
theorem BO4 : Enters Tryz.prog 76 := Aa6 Tryz.func76 (by kernel_rfl) rfl
theorem Cb3 : Enters Tryz.prog 77 := Aa6 Tryz.func77 (by kernel_rfl) rfl
theorem Cb2 : Enters Tryz.prog 78 := Aa6 Tryz.func78 (by kernel_rfl) rfl
theorem BO3 : Enters Tryz.prog 79 := Aa6 Tryz.func79 (by kernel_rfl) rfl
theorem BM8 : tyB Tryz.prog 151 = some (false, 1) := by kernel_rfl
instance : Tyc Tryz.prog 151 false 1 := ⟨BM8⟩
theorem Bi5 : tyB Tryz.prog 152 = some (false, 1) := by kernel_rfl
instance : Tyc Tryz.prog 152 false 1 := ⟨Bi5⟩
theorem Bn8 : tyB Tryz.prog 78 = some (false, 1) := by kernel_rfl
instance : Tyc Tryz.prog 78 false 1 := ⟨Bn8⟩
end Go.Proofs.YthbiaipagceokaaGreat
namespace Go.Ct
open Go Go.Eng Go.Pw1
theorem Bm7 (s k : Nat) : decide (((s >>> k &&& 1 : Nat) : Int) = 0) = !s.testBit k := by
  have h := BC9 s k
  have h2 := Nat.and_le_right (n := s >>> k) (m := 1)
  cases hb : s.testBit k
  · rw [hb] at h
    have := of_decide_eq_false h
    exact decide_eq_true (by omega)
  · rw [hb] at h
    have := of_decide_eq_true h
    exact decide_eq_false (by omega)
section
variable {P : Program} {W0 : World} {chg : Blks} {β γ : Type} {v : β → Value} {nw nw' : β → Blks} {I : β → Prop} {cc : γ → List PanicEntry} {np np' : γ → Blks} {J : γ → Prop} {f : FuncId} {args : Array Value} {w : World}
theorem By9 (h : Calls P f args w (GrowQ W0 chg v nw I cc np J)) (h1 : ∀ b, Pick (nw' b) (nw b)) (h2 : ∀ c, Pick (np' c) (np c)) : Calls P f args w (GrowQ W0 chg v nw' I cc np' J) :=
  h.mono fun e w' hR => by
    rcases hR with ⟨b, hI, he, hm⟩ | ⟨c, hJ, he, hm⟩
    · exact .inl ⟨b, hI, he, hm.pick (h1 b)⟩
    · exact .inr ⟨c, hJ, he, hm.pick (h2 c)⟩
end
end Go.Ct
namespace Go.Proofs.YthbiaipagceokaaGreat
open Go Go.Eng Go.Ct Go.RowKit
open Go.Pw1 (Ai5 Ah0 needX within idxF Ah2 Ap7 Ai1 Ag9 Ai7)
abbrev x1O (bv : Nat) : Obj := .cells [pV bv].toArray 78 (0, 0)
abbrev x3O (b : Int) : Obj := .cells [.int .i64 b].toArray 3 (0, 0)
abbrev x2O (l : Nat) : Obj := .cells [.func (.yield l) #[] #[]].toArray 151 (0, 0)
abbrev x4O (x1 x3 x2 x4 : Nat) : Obj := .cells [.func (.func 76) #[] #[pV x1, pV x3, pV x2, pV x4]].toArray 152 (0, 0)
def YldE {X : Type} (c : Ch) (total : List (List Lk)) (l : Nat) (U : X → Blks) (I : List El → X → Prop) (Ix : X → Prop) (Ip : List PanicEntry → X → Prop) (W0 : World) : Prop :=
  ∀ pre v x tl w1, I pre x → SpE c total (pre ++ [v]) → pre.length < total.length → Mem W0 [] (ebE 120 v ++ (U x ++ tl)) w1 → YieldAt (Fr none) 8 Tryz.prog l (encE v).toArray w1 fun e w' => ∃ x', Mem W0 [] (U x' ++ tl) w' ∧ ((e = .returned (.bool true) ∧ I (pre ++ [v]) x') ∨ (e = .returned (.bool false) ∧ Ix x') ∨ (∃ c, e = .panicked c ∧ Ip c x'))
set_option maxHeartbeats 1000000 in
theorem Cd4 {X : Type} (c : ChA) (hc : ChOk c.pl) (bv m : Nat) (es : List (Int × Value)) (W0 : World) (hS : c.Ok W0) (hv : W0.heap[bv]? = some (ctO c m)) (hF : FrOk W0 c.pl m es) (total : List (List Lk)) (l : Nat) (U : X → Blks) (I : List El → X → Prop) (Ix : X → Prop) (Ip : List PanicEntry → X → Prop)
    (hy : YldE c.pl total l U I Ix Ip W0) (x1 x3 x2 x4 : Nat) (bg : Int) : ∀ (f : Nat) (k0 : Int) (ps : Nat) (way : List Lk) (pre : List El) (x : X) (rest : Blks) (w0 : World) (q : Option Addr) (bw ow cap : Nat) (post : List (List Lk)), ps < 256 → WayOk c.pl way → c.pl.sg.length < way.length + f → I pre x → SpE c.pl total pre → pre.map (·.1) ++ (circ c.pl bg f k0 ps way ++ post) = total →
    (∀ w : World, (∀ b o, (b, o) ∈ rest → w.heap[b]? = some o) → Sl w q bw ow 3 (way.map Lk.cells)) → (q = none → cap = 0) → Mem W0 [] ((x1, x1O bv) :: (x3, x3O bg) :: (x2, x2O l) :: (x4, x4O x1 x3 x2 x4) :: (U x ++ rest)) w0 →
    Calls Tryz.prog 76 #[.int .i64 k0, .int .i64 (ps : Int), .slice q way.length cap, pV x1, pV x3, pV x2, pV x4] w0 (GrowQ W0 [] (fun z : Bool × (List El × X) => .bool z.1) (fun z => (x1, x1O bv) :: (x3, x3O bg) :: (x2, x2O l) :: (x4, x4O x1 x3 x2 x4) :: (U z.2.2 ++ rest))
      (fun z => (z.1 = true ∧ I z.2.1 z.2.2 ∧ SpE c.pl total z.2.1 ∧ z.2.1.map (·.1) = pre.map (·.1) ++ circ c.pl bg f k0 ps way) ∨ (z.1 = false ∧ Ix z.2.2)) (fun p : List PanicEntry × X => p.1) (fun p => (x1, x1O bv) :: (x3, x3O bg) :: (x2, x2O l) :: (x4, x4O x1 x3 x2 x4) :: (U p.2 ++ rest)) (fun p => Ip p.1 p.2)) := by
  intro f
  induction f with
  | zero =>
    intro k0 ps way pre x rest w0 q bw ow cap post hps hway hfu
    have := hway.len
    omega
  | succ f ih =>
    intro k0 ps way pre x rest w0 q bw ow cap post hps hway hfu hI hsp htot hwS hq hm0
    have hfew := hc.few
    have hst := hc.st
    have hwl := hway.len
    obtain ⟨q', b', o', cap', hsl1, hsl2⟩ := hF.at' k0
    have hll : (lks c.pl k0).length ≤ 20 := by (have h9 := AD5 c.pl.sg k0 c.pl.sg.length; unfold lks; omega)
    have htot1 : pre.map (·.1) ++ ((lks c.pl k0).flatMap (stepC (circ c.pl bg f) bg ps way) ++ post) = total := htot
    have hm1 : Mem W0 [] ((x1, x1O bv) :: (x3, x3O bg) :: (x2, x2O l) :: (x4, x4O x1 x3 x2 x4) :: (U x ++ (rest ++ []))) w0 := by rw [List.append_nil]; exact hm0
    show Calls _ _ _ _ (GrowQ W0 [] (fun z : Bool × (List El × X) => .bool z.1) (fun z => (x1, x1O bv) :: (x3, x3O bg) :: (x2, x2O l) :: (x4, x4O x1 x3 x2 x4) :: (U z.2.2 ++ rest)) (fun z => (z.1 = true ∧ I z.2.1 z.2.2 ∧ SpE c.pl total z.2.1 ∧ z.2.1.map (·.1) = pre.map (·.1) ++ (lks c.pl k0).flatMap (stepC (circ c.pl bg f) bg ps way)) ∨ (z.1 = false ∧ Ix z.2.2)) _ _ _)
    refine AG3 hm1 Tryz.func76 rfl rfl ?_
    refine csr ?_
    refine vp rfl rfl rfl rfl ?_
    refine nnx ?_
    refine RunC.scope ?_
    refine RunC.seq ?_
    refine RunC.label ?_
    refine RunE.next ?_
    refine RunC.seq ?_
    refine csr ?_
    refine Aa1 (Aa3 rfl (.head _) Bn8 rfl) rfl rfl rfl ?_
    refine vp rfl rfl rfl rfl ?_
    refine Aa1 (Val.fieldAddr rfl Au5) rfl rfl rfl ?_
    refine Aa1 (Aa4 rfl hv (by simp) Bd4 rfl) rfl rfl rfl ?_
    refine vp rfl rfl rfl rfl ?_
    refine Aa1 (Ak3 (v := .slice q' (lks c.pl k0).length cap') rfl rfl (fun w hm => (hF.mono0 hm).map) Ao4 Am4 hsl1) rfl rfl rfl ?_
    refine Aa1 (Ag7 rfl Aq7) rfl rfl rfl ?_
    refine vp rfl rfl rfl rfl ?_
    refine nnx ?_
    refine RunC.block ?_
    refine Al2 (X := List El × X) (n0 := [(x1, _), (x3, _), (x2, _), (x4, _)]) ((lks c.pl k0).length) (fun i y q => (22, .int .i64 (i : Int)) :: q) (fun _ _ => _) (fun i y => []) (fun i y => U y.2 ++ (rest ++ [])) (fun i y => I y.1 y.2 ∧ SpE c.pl total y.1 ∧ y.1.map (·.1) = pre.map (·.1) ++ ((lks c.pl k0).take i).flatMap (stepC (circ c.pl bg f) bg ps way)) (pre, x) ⟨hI, hsp, by simp⟩ rfl (Ad4 (t := 22) rfl rfl (Sub.cons (t := 0) rfl (Sub.cons (t := 1) rfl (Sub.cons (t := 2) rfl (Sub.cons (t := 3) rfl (Sub.cons (t := 4) rfl (Sub.cons (t := 5) rfl (Sub.cons (t := 6) rfl (Sub.cons (t := 20) rfl (Sub.cons (t := 21) rfl (Sub.nil _))))))))))) (.cons .here rfl (.cons .here rfl (.cons .here rfl (.cons .here rfl (Pick.same rfl))))) ?_
    intro i y iN iI
    obtain ⟨hyI, hysp, hye⟩ := iI
    refine csr ?_
    refine vp rfl rfl rfl rfl ?_
    refine nnx ?_
    refine RunC.seq ?_
    refine RunC.cond rfl ?_ ?_
    ·intro c0
     have c0' := c0; clear c0
     try simp only [nH] at c0'
     have hi : i < (lks c.pl k0).length := by omega
     obtain ⟨lk, hlk⟩ : ∃ l, (lks c.pl k0)[i] = l := ⟨_, rfl⟩
     have hlo : LkOk c.pl lk := Bx7 hc (hlk ▸ List.getElem_mem hi)
     obtain ⟨ls, lt, lb⟩ := lk
     have hlt0 := hlo.to
     have hls := hlo.s
     dsimp only at hlt0 hls
     obtain ⟨tn, rfl⟩ : ∃ tn : Nat, lt = (tn : Int) := ⟨lt.toNat, by omega⟩
     have htn : tn < 8 := by omega
     have h2t : 2 ^ tn ≤ 2 ^ 7 := Nat.pow_le_pow_right (by decide) (by omega)
     have hand := Nat.and_le_right (n := ps >>> tn) (m := 1)
     have hshr : ps >>> tn ≤ ps := by (rw [Nat.shiftRight_eq_div_pow]; exact Nat.div_le_self _ _)
     have hor : ps ||| 2 ^ tn < 256 := Nat.or_lt_two_pow (n := 8) (by omega) (by omega)
     have htot2 : y.1.map (·.1) ++ (stepC (circ c.pl bg f) bg ps way ⟨ls, (tn : Int), lb⟩ ++ (((lks c.pl k0).drop (i + 1)).flatMap (stepC (circ c.pl bg f) bg ps way) ++ post)) = total := by
       rw [← htot1, hye, BA7 hi, hlk]
       simp only [List.append_assoc]
     obtain ⟨way2, hw2⟩ : ∃ w2 : List Lk, way ++ [⟨ls, (tn : Int), lb⟩] = w2 := ⟨_, rfl⟩
     have hwl2 : way2.length = way.length + 1 := by (rw [← hw2, List.length_append]; rfl)
     have hwf : (way.map Lk.cells).flatten ++ Lk.cells (⟨ls, (tn : Int), lb⟩ : Lk) = (way2.map Lk.cells).flatten := by (rw [← hw2]; exact Ap6 _ _)
     refine RunC.skip ?_
     refine RunE.next ?_
     refine RunC.seq ?_
     refine RunC.block ?_
     refine csr ?_
     refine Aa1 (Ab0 rfl rfl Aq7 (by omega) (by omega) (hsl2.ptrM hi)) rfl rfl rfl ?_
     refine Aa1 (Ab8 rfl (fun w hm => hsl2.loadX (by decide) hm (by simp) Az8 hi hlk)) rfl rfl rfl ?_
     refine Ad9 (New.alloc Al4) rfl rfl rfl (fun b12 => ?_)
     refine Aa9 (Sto.store rfl rfl .here Az8 rfl rfl) rfl rfl ?_
     refine nsr ?_
     refine vp rfl rfl rfl rfl ?_
     refine vp rfl rfl rfl rfl ?_
     refine nnx ?_
     refine RunC.seq ?_
     refine csr ?_
     refine Aa1 (Val.fieldAddr rfl An4) rfl rfl rfl ?_
     refine Aa1 (Aa3 rfl (.head _) Ag0 rfl) rfl rfl rfl ?_
     refine Aa1 (Aa3 rfl (.tail _ (.tail _ (.head _))) Ag0 rfl) rfl rfl rfl ?_
     refine vp rfl rfl rfl rfl ?_
     refine vp rfl rfl rfl rfl ?_
     refine Ad3 (dj := 31) (dp := 35) 4 rfl (fun g31 => by
       have g31' := g31
       try simp only [nH] at g31'
       refine vp rfl rfl rfl rfl ?_
       refine vp rfl rfl rfl rfl ?_
       refine Ab3 (Ab7 rfl Cb2) rfl rfl rfl (fun w hm => Bh1 (fun o => decide ((o.s : Int) = (ls : Int))) way q bw ow cap 77 [_] w (hwS w (fun _ _ h => hm.at (.tail _ (.tail _ (.tail _ (.tail _ (.tail _ ((by first | exact List.mem_append_right _ (List.mem_append_left _ h) | exact List.mem_append_right _ (List.mem_append_right _ (List.mem_append_left _ h))))))))))) (by omega) Cb3 (fun t ht w2 hm2 => Bn6 ⟨ls, (tn : Int), lb⟩ t _ w2 (hm2.old_at (hm.at (.head _)) (by simp)))) ?_
       refine vp rfl rfl rfl rfl ?_
       exact Ac2 (Sub.cons rfl (Sub.skip rfl (Sub.skip rfl (Sub.skip rfl (Sub.skip rfl (Ad8 rfl (by rw [g31]) (Ab5 _))))))) (List.Sublist.refl _)
     ) (fun g31 => by
       have g31' := g31
       try simp only [nH] at g31'
       iterate 3 refine Ac6 rfl rfl rfl ?_
       refine vp rfl rfl rfl rfl ?_
       exact Ac2 (Sub.cons rfl (Sub.skip rfl (Sub.skip rfl (Sub.skip rfl (Sub.skip rfl (Ad8 rfl (by rw [g31]) (Ab5 _))))))) (List.Sublist.refl _)
     ) ?_
     refine nnx ?_
     refine RunC.cond rfl ?_ ?_
     ·intro c1
      have c1' := c1; clear c1
      try simp only [nH] at c1'
      have hb1 : lkBad bg way ⟨ls, (tn : Int), lb⟩ = true := by (unfold lkBad; simpa using c1')
      refine RunC.exit ?_
      refine Ac0 ?_
      refine Ab2 ?_
      refine RunE.next ?_
      refine RunC.region ?_
      refine Aa1 (Val.add rfl rfl (IntWalk.i64_in _ ⟨by omega, by omega⟩)) rfl rfl rfl ?_
      refine vp rfl rfl rfl rfl ?_
      refine RunL.nil ?_
      exact Ag2 y (by omega) ⟨hyI, hysp, by rw [Bk7 hi, hlk, AK2 hb1, List.append_nil]; exact hye⟩ rfl (Ad4 (t := 22) rfl rfl (Sub.cons (t := 0) rfl (Sub.cons (t := 1) rfl (Sub.cons (t := 2) rfl (Sub.cons (t := 3) rfl (Sub.cons (t := 4) rfl (Sub.cons (t := 5) rfl (Sub.cons (t := 6) rfl (Sub.cons (t := 20) rfl (Sub.cons (t := 21) rfl (Sub.nil _))))))))))) (Pick.cnt fun x => by simp only [nC]; omega)
     intro c1
     have c1' := c1; clear c1
     try simp only [nH] at c1'
     have hb0 : lkBad bg way ⟨ls, (tn : Int), lb⟩ = false := by (unfold lkBad; simpa using c1')
     refine RunC.skip ?_
     refine RunE.next ?_
     refine RunC.seq ?_
     refine Ap2 (X := Eng.Own) 4 (n0 := [(b12, _), (x1, _), (x3, _), (x2, _), (x4, _)]) (fun z1 q => (14, ownV z1 way2.length) :: q) (fun z1 => []) (fun z1 => []) (fun z1 => ownB 120 z1 (way2.map Lk.cells).flatten ++ (U y.2 ++ (rest ++ []))) (fun z1 => OwnOk 3 z1 way2.length (way2.map Lk.cells).flatten) Al3 (.cons .here rfl (.cons .here rfl (.cons .here rfl (.cons .here rfl (.cons .here rfl .nil))))) (Sub.cons (t := 0) rfl (Sub.cons (t := 1) rfl (Sub.cons (t := 2) rfl (Sub.cons (t := 3) rfl (Sub.cons (t := 4) rfl (Sub.cons (t := 5) rfl (Sub.cons (t := 6) rfl (Sub.cons (t := 12) rfl (Sub.cons (t := 20) rfl (Sub.cons (t := 21) rfl (Sub.cons (t := 22) rfl (Sub.nil _)))))))))))) (.cons .here rfl (.cons .here rfl (.cons .here rfl (.cons .here rfl (.cons .here rfl .nil))))) ?_ ?_
     ·refine va 0 rfl (Aa5 rfl) rfl rfl rfl (.cons .here rfl (.cons .here rfl (.cons .here rfl (.cons .here rfl (.cons .here rfl .nil))))) rfl ?_
      refine va 2 rfl (Ac4 rfl (.head _) Az8 rfl) rfl rfl rfl (.cons .here rfl (.cons .here rfl (.cons .here rfl (.cons .here rfl (.cons .here rfl .nil))))) rfl ?_
      refine Ae8 (rs := [1, 3]) (by kernel_rfl) (by simp) (by kernel_rfl) (fun m hm => ?_)
      simp only [List.mem_cons, List.not_mem_nil, or_false] at hm
      rcases hm with rfl | rfl
      ·refine AN6 [(b12, _), (x1, _), (x3, _), (x2, _), (x4, _)] _ rfl rfl (Ab7 rfl BO3) rfl rfl rfl (fun w hm => AE6 way (by omega) q bw ow cap w (hwS w (fun _ _ h => hm.at (.tail _ (.tail _ (.tail _ (.tail _ (.tail _ ((by first | exact List.mem_append_right _ (List.mem_append_left _ h) | exact List.mem_append_right _ (List.mem_append_right _ (List.mem_append_left _ h))))))))))) hq) (fun z37 => (Aa0 (.cons .here rfl (.cons .here rfl (.cons .here rfl (.cons .here rfl (.cons .here rfl .nil))))) (.cons .here rfl (.cons .here rfl (.cons .here rfl (.cons .here rfl (.cons .here rfl .nil))))) rfl ?_))
       obtain ⟨z37, hz37⟩ := z37
       dsimp only
       refine RunA.one (i := 3) (by kernel_rfl) (by kernel_rfl) ?_
       refine Ac8 rfl (New.buildSlice (parts := [(0, .tmp 38)]) rfl Aq7 Al4 rfl rfl rfl rfl) rfl rfl rfl (fun b39 => (Aa0 (.cons .here rfl (.cons .here rfl (.cons .here rfl (.cons .here rfl (.cons .here rfl (.cons .here rfl .nil)))))) (.cons (.there .here) rfl (.cons (.there .here) rfl (.cons (.there .here) rfl (.cons (.there .here) rfl (.cons (.there .here) rfl .nil))))) rfl ?_))
       refine Af4 (by kernel_rfl) ?_
       refine RunB.one (i := 4) (by kernel_rfl) ?_
       refine RunI.append (A := [(b39, _), (b12, _), (x1, _), (x3, _), (x2, _), (x4, _)]) (B := _) (x := z37) (ys := (Lk.cells (⟨ls, (tn : Int), lb⟩ : Lk))) rfl AN1 rfl rfl rfl hz37 rfl (fun h => by cases h) (fun w hm => Ak1 (hm.at (.head _))) (Ao6 rfl) (by simp only [maxLen]; omega) (by omega) rfl (fun z40 hz40 => (Ab1 ?_))
       refine RunB.one (i := 5) (by kernel_rfl) ?_
       refine Ac5 rfl (Aa5 rfl) rfl rfl rfl (Ab1 ?_)
       refine RunB.done (by kernel_rfl) ?_
       rw [hwf]
       exact Ag1 z40 (by rw [hwl2, ← hwf]; exact hz40) rfl (Ad4 (t := 14) rfl (by rw [hwl2]) (Sub.cons (t := 0) rfl (Sub.cons (t := 1) rfl (Sub.cons (t := 2) rfl (Sub.cons (t := 3) rfl (Sub.cons (t := 4) rfl (Sub.cons (t := 5) rfl (Sub.cons (t := 6) rfl (Sub.cons (t := 12) rfl (Sub.cons (t := 20) rfl (Sub.cons (t := 21) rfl (Sub.cons (t := 22) rfl (Sub.nil _))))))))))))) (.cons (.there .here) rfl (.cons (.there .here) rfl (.cons (.there .here) rfl (.cons (.there .here) rfl (.cons (.there .here) rfl (Pick.skip (Pick.refl _)))))))
      refine Ac8 rfl (New.buildSlice (parts := [(0, .tmp 38)]) rfl Aq7 Al4 rfl rfl rfl rfl) rfl rfl rfl (fun b39 => (Aa0 (.cons .here rfl (.cons .here rfl (.cons .here rfl (.cons .here rfl (.cons .here rfl (.cons .here rfl .nil)))))) (.cons (.there .here) rfl (.cons (.there .here) rfl (.cons (.there .here) rfl (.cons (.there .here) rfl (.cons (.there .here) rfl .nil))))) rfl ?_))
      refine RunA.one (i := 1) (by kernel_rfl) (by kernel_rfl) ?_
      refine AN6 [(b39, _), (b12, _), (x1, _), (x3, _), (x2, _), (x4, _)] _ rfl rfl (Ab7 rfl BO3) rfl rfl rfl (fun w hm => AE6 way (by omega) q bw ow cap w (hwS w (fun _ _ h => hm.at (.tail _ (.tail _ (.tail _ (.tail _ (.tail _ (.tail _ ((by first | exact List.mem_append_right _ (List.mem_append_left _ h) | exact List.mem_append_right _ (List.mem_append_right _ (List.mem_append_left _ h)))))))))))) hq) (fun z37 => (Aa0 (.cons .here rfl (.cons .here rfl (.cons .here rfl (.cons .here rfl (.cons .here rfl (.cons .here rfl .nil)))))) (.cons .here rfl (.cons .here rfl (.cons .here rfl (.cons .here rfl (.cons .here rfl (.cons .here rfl .nil)))))) rfl ?_))
      obtain ⟨z37, hz37⟩ := z37
      dsimp only
      refine Af4 (by kernel_rfl) ?_
      refine RunB.one (i := 4) (by kernel_rfl) ?_
      refine RunI.append (A := [(b39, _), (b12, _), (x1, _), (x3, _), (x2, _), (x4, _)]) (B := _) (x := z37) (ys := (Lk.cells (⟨ls, (tn : Int), lb⟩ : Lk))) rfl AN1 rfl rfl rfl hz37 rfl (fun h => by cases h) (fun w hm => Ak1 (hm.at (.head _))) (Ao6 rfl) (by simp only [maxLen]; omega) (by omega) rfl (fun z40 hz40 => (Ab1 ?_))
      refine RunB.one (i := 5) (by kernel_rfl) ?_
      refine Ac5 rfl (Aa5 rfl) rfl rfl rfl (Ab1 ?_)
      refine RunB.done (by kernel_rfl) ?_
      rw [hwf]
      exact Ag1 z40 (by rw [hwl2, ← hwf]; exact hz40) rfl (Ad4 (t := 14) rfl (by rw [hwl2]) (Sub.cons (t := 0) rfl (Sub.cons (t := 1) rfl (Sub.cons (t := 2) rfl (Sub.cons (t := 3) rfl (Sub.cons (t := 4) rfl (Sub.cons (t := 5) rfl (Sub.cons (t := 6) rfl (Sub.cons (t := 12) rfl (Sub.cons (t := 20) rfl (Sub.cons (t := 21) rfl (Sub.cons (t := 22) rfl (Sub.nil _))))))))))))) (.cons (.there .here) rfl (.cons (.there .here) rfl (.cons (.there .here) rfl (.cons (.there .here) rfl (.cons (.there .here) rfl (Pick.skip (Pick.refl _)))))))
     intro z1 z1I
     have hz1v : ownV z1 way2.length = .slice (ownQ z1) way2.length (ownC z1) := Af8 z1I
     refine RunE.next ?_
     refine RunC.seq ?_
     refine csr ?_
     refine Aa1 (Val.fieldAddr rfl An4) rfl rfl rfl ?_
     refine Aa1 (Aa3 rfl (.head _) Ag0 rfl) rfl rfl rfl ?_
     refine Aa1 (Aa3 rfl (.tail _ (.tail _ (.head _))) Ag0 rfl) rfl rfl rfl ?_
     refine vp rfl rfl rfl rfl ?_
     refine nnx ?_
     refine RunC.cond rfl ?_ ?_
     ·intro c2
      have c2' := c2; clear c2
      try simp only [nH] at c2'
      have hstp := Bu2 (rec := circ c.pl bg f) (ps := ps) hb0 (show (⟨ls, (tn : Int), lb⟩ : Lk).to = bg from c2')
      rw [hw2] at hstp
      have hmem : way2 ∈ total := by (rw [← htot2, hstp]; simp)
      have hlt : y.1.length < total.length := by (rw [← htot2, hstp]; simp)
      refine RunC.seq ?_
      refine RunC.seq ?_
      refine AO3 (Sub.cons (t := 0) rfl (Sub.cons (t := 1) rfl (Sub.cons (t := 2) rfl (Sub.cons (t := 3) rfl (Sub.cons (t := 4) rfl (Sub.cons (t := 5) rfl (Sub.cons (t := 6) rfl (Sub.cons (t := 14) rfl (Sub.cons (t := 20) rfl (Sub.cons (t := 21) rfl (Sub.cons (t := 22) rfl (Sub.nil _)))))))))))) (.cons (.there .here) rfl (.cons (.there .here) rfl (.cons (.there .here) rfl (.cons (.there .here) rfl (Pick.skip (Pick.refl _)))))) ?_
      refine BM4 ?_
      refine RunCR.region ?_
      refine Ac1 (Aa3 rfl (.tail _ (.tail _ (.head _))) BM8 rfl) rfl rfl rfl ?_
      refine Ac1 (Aa5 rfl) rfl rfl rfl ?_
      refine Bc5 (AD8 rfl rfl) rfl rfl rfl (fun w hm => (BF3 (α := El) (encs := encE) (eb := ebE 120) (U := U) (I := I) (Ix := Ix) (Ip := Ip) (pre := y.1) (v := (way2, z1)) (N' := fun x => (x1, x1O bv) :: (x3, x3O bg) :: (x2, x2O l) :: (x4, x4O x1 x3 x2 x4) :: (U x ++ (rest ++ []))) (tl := (x1, x1O bv) :: (x3, x3O bg) :: (x2, x2O l) :: (x4, x4O x1 x3 x2 x4) :: rest) (fun x => (Pick.cnt fun x => by simp only [nC]; omega)) (hy y.1 (way2, z1) y.2 ((x1, x1O bv) :: (x3, x3O bg) :: (x2, x2O l) :: (x4, x4O x1 x3 x2 x4) :: rest) w hyI (hysp.snoc hmem (hw2 ▸ hway.snoc hlo hb0) z1I) hlt (show Mem W0 [] (ownB 120 z1 (way2.map Lk.cells).flatten ++ (U y.2 ++ ((x1, x1O bv) :: (x3, x3O bg) :: (x2, x2O l) :: (x4, x4O x1 x3 x2 x4) :: rest))) w from ((show Mem W0 [] ((x1, x1O bv) :: (x3, x3O bg) :: (x2, x2O l) :: (x4, x4O x1 x3 x2 x4) :: (ownB 120 z1 (way2.map Lk.cells).flatten ++ (U y.2 ++ (rest ++ [])))) w from hm).pick (Pick.cnt fun x => by simp only [nC]; omega)))))) (fun p47 hp47 => ?_) (fun z47 hz47 => ?_)
      ·refine Ab6 ?_
       refine Ab6 ?_
       refine Ab6 ?_
       refine Ae9 ?_
       refine Ab6 ?_
       refine Ab6 ?_
       refine Ae9 ?_
       refine Ab6 ?_
       refine Ao5 ?_
       exact AR7 p47 hp47 rfl (Pick.cnt fun x => by simp only [nC]; omega)
      refine Ac1 (Aa5 rfl) rfl rfl rfl ?_
      refine RunLR.nil ?_
      refine RunE.next ?_
      refine RunC.cond rfl ?_ ?_
      ·intro c3
       have c3' := c3; clear c3
       try simp only [nH] at c3'
       replace hz47 : Ix z47.2 := (hz47.resolve_left (fun h => by rw [show z47.1 = false by simpa using c3'] at h; cases h.1)).2
       refine csr ?_
       refine vp rfl rfl rfl rfl ?_
       refine nnx ?_
       refine RunC.ret ?_
       refine Ad6 ?_
       refine Ad6 ?_
       refine Af1 ?_
       refine Ad6 ?_
       refine Ad6 ?_
       refine Af1 ?_
       refine Ad6 ?_
       refine Aj6 ?_
       exact AG6 ((false, (y.1, z47.2)) : Bool × (List El × X)) (.inr ⟨rfl, hz47⟩) (.r1 rfl (.tmp rfl)) rfl (Pick.cnt fun x => by simp only [nC]; omega)
      intro c3
      have c3' := c3; clear c3
      try simp only [nH] at c3'
      replace hz47 := hz47.resolve_right (fun h => by rw [show z47.1 = true by simpa using c3'] at h; cases h.1)
      replace hz47 : I (y.1 ++ [(way2, z1)]) z47.2 ∧ True := ⟨hz47.2, trivial⟩
      refine RunC.skip ?_
      refine RunE.next ?_
      refine RunC.exit ?_
      refine Ac0 ?_
      refine Ab2 ?_
      refine RunE.next ?_
      refine RunC.region ?_
      refine Aa1 (Val.add rfl rfl (IntWalk.i64_in _ ⟨by omega, by omega⟩)) rfl rfl rfl ?_
      refine vp rfl rfl rfl rfl ?_
      refine RunL.nil ?_
      exact Ag2 (y.1 ++ [(way2, z1)], z47.2) (by omega) ⟨hz47.1, hysp.snoc hmem (hw2 ▸ hway.snoc hlo hb0) z1I, by rw [Bk7 hi, hlk, hstp, List.map_append, hye, List.append_assoc]; rfl⟩ rfl (Ad4 (t := 22) rfl rfl (Sub.cons (t := 0) rfl (Sub.cons (t := 1) rfl (Sub.cons (t := 2) rfl (Sub.cons (t := 3) rfl (Sub.cons (t := 4) rfl (Sub.cons (t := 5) rfl (Sub.cons (t := 6) rfl (Sub.cons (t := 20) rfl (Sub.cons (t := 21) rfl (Sub.nil _))))))))))) (Pick.cnt fun x => by simp only [nC]; omega)
     intro c2
     have c2' := c2; clear c2
     try simp only [nH] at c2'
     have hne : (⟨ls, (tn : Int), lb⟩ : Lk).to ≠ bg := c2'
     refine RunC.skip ?_
     refine RunE.next ?_
     refine RunC.seq ?_
     refine Ae5 16 Al3 (.cons .here rfl (.cons .here rfl (.cons .here rfl (.cons .here rfl (.cons .here rfl .nil))))) ?_
     refine va 0 rfl (Aa5 rfl) rfl rfl rfl (.cons .here rfl (.cons .here rfl (.cons .here rfl (.cons .here rfl (.cons .here rfl .nil))))) rfl ?_
     refine va 1 rfl (Val.fieldAddr rfl An4) rfl rfl rfl (.cons .here rfl (.cons .here rfl (.cons .here rfl (.cons .here rfl (.cons .here rfl .nil))))) rfl ?_
     refine va 2 rfl (Aa3 rfl (.head _) Ag0 rfl) rfl rfl rfl (.cons .here rfl (.cons .here rfl (.cons .here rfl (.cons .here rfl (.cons .here rfl .nil))))) rfl ?_
     refine va 3 rfl (AV8 (a := ps) (b := tn) rfl rfl (by show tn ≤ 64; omega)) rfl rfl rfl (.cons .here rfl (.cons .here rfl (.cons .here rfl (.cons .here rfl (.cons .here rfl .nil))))) rfl ?_
     refine va 4 rfl (Val.and (a := ps >>> tn) (b := 1) rfl rfl (by show _ < 18446744073709551616; omega) (by decide) (AG2 (by omega))) rfl rfl rfl (.cons .here rfl (.cons .here rfl (.cons .here rfl (.cons .here rfl (.cons .here rfl .nil))))) rfl ?_
     refine va 5 rfl (Aa5 rfl) rfl rfl rfl (.cons .here rfl (.cons .here rfl (.cons .here rfl (.cons .here rfl (.cons .here rfl .nil))))) rfl ?_
     refine va 6 rfl (Aa5 rfl) rfl rfl rfl (.cons .here rfl (.cons .here rfl (.cons .here rfl (.cons .here rfl (.cons .here rfl .nil))))) rfl ?_
     refine Ax4 (dj := 55) rfl ?_ ?_
     ·intro g55
      have g55' := g55; clear g55
      try simp only [nH] at g55'
      refine va 7 rfl (Aa3 rfl (.tail _ (.tail _ (.tail _ (.tail _ (.head _))))) Bi5 rfl) rfl rfl rfl (.cons .here rfl (.cons .here rfl (.cons .here rfl (.cons .here rfl (.cons .here rfl .nil))))) rfl ?_
      refine va 8 rfl (Val.fieldAddr rfl An4) rfl rfl rfl (.cons .here rfl (.cons .here rfl (.cons .here rfl (.cons .here rfl (.cons .here rfl .nil))))) rfl ?_
      refine va 9 rfl (Aa3 rfl (.head _) Ag0 rfl) rfl rfl rfl (.cons .here rfl (.cons .here rfl (.cons .here rfl (.cons .here rfl (.cons .here rfl .nil))))) rfl ?_
      refine va 10 rfl (Aa5 rfl) rfl rfl rfl (.cons .here rfl (.cons .here rfl (.cons .here rfl (.cons .here rfl (.cons .here rfl .nil))))) rfl ?_
      refine va 11 rfl (Val.fieldAddr rfl An4) rfl rfl rfl (.cons .here rfl (.cons .here rfl (.cons .here rfl (.cons .here rfl (.cons .here rfl .nil))))) rfl ?_
      refine va 12 rfl (Aa3 rfl (.head _) Ag0 rfl) rfl rfl rfl (.cons .here rfl (.cons .here rfl (.cons .here rfl (.cons .here rfl (.cons .here rfl .nil))))) rfl ?_
      refine va 13 rfl (AJ2 (b := tn) rfl rfl (by show tn ≤ 64; omega) (AG2 (n := 2 ^ tn) (by omega))) rfl rfl rfl (.cons .here rfl (.cons .here rfl (.cons .here rfl (.cons .here rfl (.cons .here rfl .nil))))) rfl ?_
      refine va 14 rfl (Val.or (a := ps) (b := 2 ^ tn) rfl rfl (by show _ < 18446744073709551616; omega) (by show _ < 18446744073709551616; omega) (AG2 (by omega))) rfl rfl rfl (.cons .here rfl (.cons .here rfl (.cons .here rfl (.cons .here rfl (.cons .here rfl .nil))))) rfl ?_
      have hbit0 : ps.testBit tn = false := by (have h9 : (!ps.testBit tn) = true := (by rw [← Bm7]; simpa using g55'); simpa using h9)
      have hstp2 := Bi7 (rec := circ c.pl bg f) hb0 hne (show ps.testBit ((tn : Int)).toNat = false by rw [Int.toNat_natCast]; exact hbit0)
      rw [Int.toNat_natCast, hw2] at hstp2
      have hon2 := htot2
      rw [hstp2] at hon2
      rw [hz1v]
      refine va 15 rfl (Aa5 rfl) rfl rfl rfl (.cons .here rfl (.cons .here rfl (.cons .here rfl (.cons .here rfl (.cons .here rfl .nil))))) rfl ?_
      refine Af4 (by kernel_rfl) ?_
      refine RunB.one (i := 16) (by kernel_rfl) ?_
      refine AR5 rfl (Ad1 rfl rfl BO4) rfl rfl rfl (fun w hm => (By9 (nw' := fun z : Bool × (List El × X) => (b12, .cells [Value.int .i64 (ls : Int), .int .i64 (tn : Int), .bool lb].toArray 120 (0, 0)) :: (x1, x1O bv) :: (x3, x3O bg) :: (x2, x2O l) :: (x4, x4O x1 x3 x2 x4) :: (ownB 120 z1 (way2.map Lk.cells).flatten ++ (U z.2.2 ++ (rest ++ [])))) (np' := fun p : List PanicEntry × X => (b12, .cells [Value.int .i64 (ls : Int), .int .i64 (tn : Int), .bool lb].toArray 120 (0, 0)) :: (x1, x1O bv) :: (x3, x3O bg) :: (x2, x2O l) :: (x4, x4O x1 x3 x2 x4) :: (ownB 120 z1 (way2.map Lk.cells).flatten ++ (U p.2 ++ (rest ++ [])))) (ih (tn : Int) (ps ||| 2 ^ tn) way2 y.1 y.2 ((b12, .cells [Value.int .i64 (ls : Int), .int .i64 (tn : Int), .bool lb].toArray 120 (0, 0)) :: (ownB 120 z1 (way2.map Lk.cells).flatten ++ rest)) w (ownQ z1) (ownK z1) 0 (ownC z1) (((lks c.pl k0).drop (i + 1)).flatMap (stepC (circ c.pl bg f) bg ps way) ++ post) hor (hw2 ▸ hway.snoc hlo hb0) (by omega) hyI hysp hon2 (fun w2 h2 => Ai6 (f := Lk.cells) (fun _ => rfl) (by decide) z1I (fun b o hb => h2 b o (List.mem_cons_of_mem _ (List.mem_append_left _ hb)))) (fun h => by (cases z1 with | none => rfl | some z => cases h)) (hm.pick (Pick.cnt fun x => by simp only [nC]; omega))) (fun z => (Pick.cnt fun x => by simp only [nC]; omega)) (fun p => (Pick.cnt fun x => by simp only [nC]; omega)))) (fun p65 hp65 => ?_) (fun z65 hz65 => (Ab1 ?_))
      ·refine Ab6 ?_
       refine Ae9 ?_
       refine Ab6 ?_
       refine Ab6 ?_
       refine Ae9 ?_
       refine Ab6 ?_
       refine Ao5 ?_
       exact AR7 p65 hp65 rfl (Pick.cnt fun x => by simp only [nC]; omega)
      refine RunB.one (i := 17) (by kernel_rfl) ?_
      refine Ac5 rfl (Aa5 rfl) rfl rfl rfl (Ab1 ?_)
      refine RunB.one (i := 18) (by kernel_rfl) ?_
      refine Ac5 rfl (Aa5 rfl) rfl rfl rfl (Ab1 ?_)
      refine RunB.done (by kernel_rfl) ?_
      refine RunE.next ?_
      refine RunC.cond rfl ?_ ?_
      ·intro c4
       have c4' := c4; clear c4
       try simp only [nH] at c4'
       replace hz65 : Ix z65.2.2 := (hz65.resolve_left (fun h => by rw [show z65.1 = false by simpa using c4'] at h; cases h.1)).2
       refine csr ?_
       refine vp rfl rfl rfl rfl ?_
       refine nnx ?_
       refine RunC.ret ?_
       refine Af1 ?_
       refine Ad6 ?_
       refine Ad6 ?_
       refine Af1 ?_
       refine Ad6 ?_
       refine Aj6 ?_
       exact AG6 ((false, z65.2) : Bool × (List El × X)) (.inr ⟨rfl, hz65⟩) (.r1 rfl (.tmp rfl)) rfl (Pick.cnt fun x => by simp only [nC]; omega)
      intro c4
      have c4' := c4; clear c4
      try simp only [nH] at c4'
      replace hz65 := (hz65.resolve_right (fun h => by rw [show z65.1 = true by simpa using c4'] at h; cases h.1)).2
      refine RunC.skip ?_
      refine Ad0 ?_
      refine RunE.next ?_
      refine RunC.region ?_
      refine Aa1 (Val.add rfl rfl (IntWalk.i64_in _ ⟨by omega, by omega⟩)) rfl rfl rfl ?_
      refine vp rfl rfl rfl rfl ?_
      refine RunL.nil ?_
      exact Ag2 z65.2 (by omega) ⟨hz65.1, hz65.2.1, by rw [Bk7 hi, hlk, hstp2, hz65.2.2, hye, List.append_assoc]⟩ rfl (Ad4 (t := 22) rfl rfl (Sub.cons (t := 0) rfl (Sub.cons (t := 1) rfl (Sub.cons (t := 2) rfl (Sub.cons (t := 3) rfl (Sub.cons (t := 4) rfl (Sub.cons (t := 5) rfl (Sub.cons (t := 6) rfl (Sub.cons (t := 20) rfl (Sub.cons (t := 21) rfl (Sub.nil _))))))))))) (Pick.cnt fun x => by simp only [nC]; omega)
     intro g55
     have g55' := g55; clear g55
     try simp only [nH] at g55'
     have hbit : ps.testBit ((tn : Int)).toNat = true := by (have h9 : (!ps.testBit tn) = false := (by rw [← Bm7]; simpa using g55'); rw [Int.toNat_natCast]; simpa using h9)
     refine Ae0 (i := 7) rfl (by kernel_rfl) (by kernel_rfl) rfl rfl rfl (fun _ _ _ h => h) (.cons .here rfl (.cons .here rfl (.cons .here rfl (.cons .here rfl (.cons .here rfl .nil))))) rfl ?_
     refine Ae0 (i := 8) rfl (by kernel_rfl) (by kernel_rfl) rfl rfl rfl (fun _ _ _ h => h) (.cons .here rfl (.cons .here rfl (.cons .here rfl (.cons .here rfl (.cons .here rfl .nil))))) rfl ?_
     refine Ae0 (i := 9) rfl (by kernel_rfl) (by kernel_rfl) rfl rfl rfl (fun _ _ _ h => h) (.cons .here rfl (.cons .here rfl (.cons .here rfl (.cons .here rfl (.cons .here rfl .nil))))) rfl ?_
     refine Ae0 (i := 10) rfl (by kernel_rfl) (by kernel_rfl) rfl rfl rfl (fun _ _ _ h => h) (.cons .here rfl (.cons .here rfl (.cons .here rfl (.cons .here rfl (.cons .here rfl .nil))))) rfl ?_
     refine Ae0 (i := 11) rfl (by kernel_rfl) (by kernel_rfl) rfl rfl rfl (fun _ _ _ h => h) (.cons .here rfl (.cons .here rfl (.cons .here rfl (.cons .here rfl (.cons .here rfl .nil))))) rfl ?_
     refine Ae0 (i := 12) rfl (by kernel_rfl) (by kernel_rfl) rfl rfl rfl (fun _ _ _ h => h) (.cons .here rfl (.cons .here rfl (.cons .here rfl (.cons .here rfl (.cons .here rfl .nil))))) rfl ?_
     refine Ae0 (i := 13) rfl (by kernel_rfl) (by kernel_rfl) rfl rfl rfl (fun _ _ _ h => h) (.cons .here rfl (.cons .here rfl (.cons .here rfl (.cons .here rfl (.cons .here rfl .nil))))) rfl ?_
     refine Ae0 (i := 14) rfl (by kernel_rfl) (by kernel_rfl) rfl rfl rfl (fun _ _ _ h => h) (.cons .here rfl (.cons .here rfl (.cons .here rfl (.cons .here rfl (.cons .here rfl .nil))))) rfl ?_
     refine Ae0 (i := 15) rfl (by kernel_rfl) (by kernel_rfl) rfl rfl rfl (fun _ _ _ h => h) (.cons .here rfl (.cons .here rfl (.cons .here rfl (.cons .here rfl (.cons .here rfl .nil))))) rfl ?_
     refine Af4 (by kernel_rfl) ?_
     refine RunB.one (i := 16) (by kernel_rfl) ?_
     refine Ag4 rfl rfl rfl rfl (Ab1 ?_)
     refine RunB.one (i := 17) (by kernel_rfl) ?_
     refine Ag4 rfl rfl rfl rfl (Ab1 ?_)
     refine RunB.one (i := 18) (by kernel_rfl) ?_
     refine Ac5 rfl (Aa5 rfl) rfl rfl rfl (Ab1 ?_)
     refine RunB.done (by kernel_rfl) ?_
     refine RunE.next ?_
     refine Al8 rfl ?_
     refine RunC.skip ?_
     refine Ad0 ?_
     refine RunE.next ?_
     refine RunC.region ?_
     refine Aa1 (Val.add rfl rfl (IntWalk.i64_in _ ⟨by omega, by omega⟩)) rfl rfl rfl ?_
     refine vp rfl rfl rfl rfl ?_
     refine RunL.nil ?_
     exact Ag2 y (by omega) ⟨hyI, hysp, by rw [Bk7 hi, hlk, AP1 hb0 hne hbit, List.append_nil]; exact hye⟩ rfl (Ad4 (t := 22) rfl rfl (Sub.cons (t := 0) rfl (Sub.cons (t := 1) rfl (Sub.cons (t := 2) rfl (Sub.cons (t := 3) rfl (Sub.cons (t := 4) rfl (Sub.cons (t := 5) rfl (Sub.cons (t := 6) rfl (Sub.cons (t := 20) rfl (Sub.cons (t := 21) rfl (Sub.nil _))))))))))) (Pick.cnt fun x => by simp only [nC]; omega)
    intro c0
    have c0' := c0; clear c0
    try simp only [nH] at c0'
    obtain rfl : i = (lks c.pl k0).length := by omega
    rw [List.take_length] at hye
    refine RunC.exit ?_
    refine Ac0 ?_
    refine Ac0 ?_
    refine Ab2 ?_
    refine RunE.next ?_
    refine csr ?_
    refine vp rfl rfl rfl rfl ?_
    refine nnx ?_
    refine RunC.ret ?_
    refine Aj6 ?_
    exact AG6 ((true, y) : Bool × (List El × X)) (.inl ⟨rfl, hyI, hysp, hye⟩) (.r1 rfl (.tmp rfl)) rfl (Pick.cnt fun x => by simp only [nC]; omega)
end Go.Proofs.YthbiaipagceokaaGreat
namespace Go.Proofs.YthbiaipagceokaaGreat
open Go Go.Eng
theorem BW3 : Enters Tryz.prog 103 := Aa6 Tryz.func103 (by kernel_rfl) rfl
theorem BW2 : Enters Tryz.prog 112 := Aa6 Tryz.func112 (by kernel_rfl) rfl
theorem BO5 : Enters Tryz.prog 75 := Aa6 Tryz.func75 (by kernel_rfl) rfl
theorem Cb1 : Enters Tryz.prog 80 := Aa6 Tryz.func80 (by kernel_rfl) rfl
theorem Cb0 : Enters Tryz.prog 81 := Aa6 Tryz.func81 (by kernel_rfl) rfl
theorem Bu6 : slB Tryz.prog 91 = some (90, 1) := by kernel_rfl
instance : Slc Tryz.prog 91 90 1 := ⟨Bu6⟩
theorem BR7 : Tryz.prog.underlying 193 = some (.int .u64) := by kernel_rfl
theorem BR6 : Tryz.prog.underlying 5 = some (.int .u8) := by kernel_rfl
theorem Ce1 : Tryz.prog.underlying 9 = some (.string) := by kernel_rfl
theorem BE9 : zeroB Tryz.prog 152 = some [.nilFunc] := by kernel_rfl
end Go.Proofs.YthbiaipagceokaaGreat
namespace Go.Ct
open Go Go.Eng Go.Pw1
theorem AQ7 (c : Ch) (k : Nat) : ∀ n, k ≤ n → ∃ post, circA c k ++ post = circA c n
  | 0, h => ⟨[], by rw [List.append_nil]; congr 1; omega⟩
  | n + 1, h => by
    by_cases he : k = n + 1
    · exact ⟨[], by rw [List.append_nil, he]⟩
    · obtain ⟨post, hp⟩ := AQ7 c k n (by omega)
      exact ⟨post ++ circ c (n : Int) (c.sg.length + 1) (n : Int) (2 ^ n) [], by rw [AU8, ← hp, List.append_assoc]⟩
theorem Br3 (c : Ch) {k : Nat} (h : k < c.st.toNat) : ∃ post, circA c k ++ (circ c (k : Int) (c.sg.length + 1) (k : Int) (2 ^ k) [] ++ post) = circs c := by
  obtain ⟨post, hp⟩ := AQ7 c (k + 1) c.st.toNat (by omega)
  exact ⟨post, by rw [← List.append_assoc, ← AU8]; exact hp⟩
def loL (c : Ch) (nx : Bool) (way : List Lk) : Int := sumL (fun l => (spanL c nx l).lo) way way.length
def hiL (c : Ch) (nx : Bool) (way : List Lk) : Int := sumL (fun l => (spanL c nx l).hi) way way.length
/-- All circles are right. -/
def RightC (c : Ch) : Prop := ∀ way ∈ circs c, ∀ nx, loL c nx way ≤ 0 ∧ 0 ≤ hiL c nx way
end Go.Ct
namespace Go.Proofs.YthbiaipagceokaaGreat
open Go Go.Eng Go.Ct Go.RowKit
open Go.Pw1 (Ai5 Ah0 needX within idxF Ah2 Ap7 Ai1 Ag9 Ai7)
set_option maxHeartbeats 1000000 in
theorem BC5 (c : ChA) (hc : ChOk c.pl) (bv m : Nat) (es : List (Int × Value)) (W0 : World) (hS : c.Ok W0) (hv : W0.heap[bv]? = some (ctO c m)) (hF : FrOk W0 c.pl m es) (b1 : Nat) :
    SeqQ Tryz.prog 75 #[pV b1] encE (ebE 120) [(b1, x1O bv)] cmisf (fun xs => SpE c.pl (circs c.pl) xs ∧ xs.map (·.1) = circs c.pl) (SpE c.pl (circs c.pl)) (fun _ _ => False) (circs c.pl).length W0 := by
  intro X l U I Ix Ip rest w0 u0 hy i0 hm0
  have hst := hc.st
  have hst2 : 1 ≤ c.st ∧ c.st ≤ 8 := hst
  have hm1 : Mem W0 [] ((b1, x1O bv) :: (U u0 ++ (rest ++ []))) w0 := hm0.pick (Pick.cnt fun x => by simp only [List.nil_append, List.cons_append, List.count_append, List.count_cons, List.count_nil]; omega)
  refine Bb6 (vs := [.func (.yield l) #[] #[], pV b1]) hm1 Tryz.func75 rfl rfl (BM5 ?_) 8
  refine csr ?_
  refine Ad9 (New.box rfl) rfl rfl rfl (fun b2 => ?_)
  refine nsr ?_
  refine Ad9 (New.alloc Az7) rfl rfl rfl (fun b3 => ?_)
  refine nsr ?_
  refine Ad9 (New.alloc BE9) rfl rfl rfl (fun b4 => ?_)
  refine nsr ?_
  refine vp rfl rfl rfl rfl ?_
  refine Aa9 (Sto.store rfl rfl .here Bi5 rfl rfl) rfl rfl ?_
  refine nsr ?_
  refine Aa1 (Aa3 rfl (.tail _ (.tail _ (.tail _ (.head _)))) Bn8 rfl) rfl rfl rfl ?_
  refine vp rfl rfl rfl rfl ?_
  refine Aa1 (Val.fieldAddr rfl Au6) rfl rfl rfl ?_
  refine Aa1 (Val.fieldAddr rfl Aj9) rfl rfl rfl ?_
  refine Aa1 (Aa4 rfl hv (by simp) Ag0 rfl) rfl rfl rfl ?_
  refine vp rfl rfl rfl rfl ?_
  refine nnx ?_
  refine RunC.block ?_
  refine AO3 (Ab5 _) (news' := [(b4, x4O b1 b3 b2 b4), (b3, x3O 0), (b2, x2O l), (b1, x1O bv)] ++ (U u0 ++ (rest ++ []))) (.cons .here rfl (.cons .here rfl (.cons .here rfl (.cons .here rfl (Pick.refl _))))) ?_
  refine Al2 (X := List El × X × Int) (n0 := [(b4, x4O b1 b3 b2 b4), (b2, x2O l), (b1, x1O bv)]) (c.st.toNat) (fun k y q => (11, .int .i64 (k : Int)) :: q) (fun _ _ => _) (fun k y => [(b3, x3O y.2.2)]) (fun k y => U y.2.1 ++ (rest ++ [])) (fun k y => I y.1 y.2.1 ∧ SpE c.pl (circs c.pl) y.1 ∧ y.1.map (·.1) = circA c.pl k) ([], u0, 0) ⟨i0, (fun _ h => by cases h), rfl⟩ rfl (Ad4 (t := 11) rfl rfl (Sub.cons (t := 3) rfl (Sub.cons (t := 4) rfl (Sub.cons (t := 10) rfl (Sub.nil _))))) (Pick.cnt fun x => by simp only [nC]; omega) ?_
  intro k y kN kI
  obtain ⟨hyI, hysp, hye⟩ := kI
  refine csr ?_
  refine vp rfl rfl rfl rfl ?_
  refine nnx ?_
  refine RunC.seq ?_
  refine RunC.cond rfl ?_ ?_
  ·intro c0
   have c0' := c0; clear c0
   try simp only [nH] at c0'
   have hk : k < c.st.toNat := by omega
   have h2k : 2 ^ k ≤ 2 ^ 7 := Nat.pow_le_pow_right (by decide) (by omega)
   obtain ⟨post, hpost⟩ := Br3 c.pl (show k < c.pl.st.toNat from hk)
   refine RunC.skip ?_
   refine RunE.next ?_
   refine RunC.seq ?_
   refine RunC.block ?_
   refine csr ?_
   refine vp rfl rfl rfl rfl ?_
   refine Aa9 (Sto.store rfl rfl .here Ag0 rfl rfl) rfl rfl ?_
   refine nnx ?_
   refine RunC.seq ?_
   refine Ae5 4 Al3 (.cons .here rfl (.cons .here rfl (.cons .here rfl (.cons .here rfl .nil)))) ?_
   refine va 0 rfl (Aa3 rfl (.tail _ (.head _)) Bi5 rfl) rfl rfl rfl (.cons .here rfl (.cons .here rfl (.cons .here rfl (.cons .here rfl .nil)))) rfl ?_
   refine va 1 rfl (Aa3 rfl (.head _) Ag0 rfl) rfl rfl rfl (.cons .here rfl (.cons .here rfl (.cons .here rfl (.cons .here rfl .nil)))) rfl ?_
   refine va 2 rfl (Aa3 rfl (.head _) Ag0 rfl) rfl rfl rfl (.cons .here rfl (.cons .here rfl (.cons .here rfl (.cons .here rfl .nil)))) rfl ?_
   refine va 3 rfl (AJ2 (b := k) rfl rfl (by show k ≤ 64; omega) (AG2 (n := 2 ^ k) (by omega))) rfl rfl rfl (.cons .here rfl (.cons .here rfl (.cons .here rfl (.cons .here rfl .nil)))) rfl ?_
   refine Af4 (by kernel_rfl) ?_
   refine RunB.one (i := 4) (by kernel_rfl) ?_
   refine AR5 rfl (Ad1 rfl rfl BO4) rfl rfl rfl (fun w hm => (By9 (nw' := fun z : Bool × (List El × X) => (b4, x4O b1 b3 b2 b4) :: (b3, x3O (k : Int)) :: (b2, x2O l) :: (b1, x1O bv) :: (U z.2.2 ++ (rest ++ []))) (np' := fun p : List PanicEntry × X => (b4, x4O b1 b3 b2 b4) :: (b3, x3O (k : Int)) :: (b2, x2O l) :: (b1, x1O bv) :: (U p.2 ++ (rest ++ []))) (Cd4 c hc bv m es W0 hS hv hF (circs c.pl) l U I Ix Ip hy b1 b3 b2 b4 (k : Int) (c.pl.sg.length + 1) (k : Int) (2 ^ k) [] y.1 y.2.1 rest w none 0 0 0 post (by omega) (WayOk.nil _) (by simp) hyI hysp (by rw [hye]; exact hpost) (fun _ _ => Sl.emp) (fun _ => rfl) ((show Mem W0 [] ((b3, x3O (k : Int)) :: (b4, x4O b1 b3 b2 b4) :: (b2, x2O l) :: (b1, x1O bv) :: (U y.2.1 ++ (rest ++ []))) w from hm).pick (Pick.cnt fun x => by simp only [nC]; omega))) (fun z => (Pick.cnt fun x => by simp only [nC]; omega)) (fun p => (Pick.cnt fun x => by simp only [nC]; omega)))) (fun p18 hp18 => ?_) (fun z18 hz18 => (Ab1 ?_))
   ·refine Ab6 ?_
    refine Ae9 ?_
    refine Ab6 ?_
    refine Ab6 ?_
    refine Ae9 ?_
    exact fun _ w s => ⟨s.defers, p18.2, s.mem.pick (Pick.cnt fun x => by simp only [nC]; omega), .inr (.inl ⟨p18.1, rfl, hp18⟩)⟩
   refine RunB.one (i := 5) (by kernel_rfl) ?_
   refine Ac5 rfl (Aa5 rfl) rfl rfl rfl (Ab1 ?_)
   refine RunB.done (by kernel_rfl) ?_
   refine RunE.next ?_
   refine RunC.cond rfl ?_ ?_
   ·intro c1
    have c1' := c1; clear c1
    try simp only [nH] at c1'
    replace hz18 : Ix z18.2.2 := (hz18.resolve_left (fun h => by rw [show z18.1 = false by simpa using c1'] at h; cases h.1)).2
    refine RunC.ret ?_
    refine Af1 ?_
    refine Ad6 ?_
    refine Ad6 ?_
    refine Af1 ?_
    exact RunE.ret (chg := []) (.r0 rfl) (fun _ hm => ⟨z18.2.2, hm.pick (Pick.cnt fun x => by simp only [nC]; omega), .inl ⟨_, rfl, .inr hz18⟩⟩)
   intro c1
   have c1' := c1; clear c1
   try simp only [nH] at c1'
   replace hz18 := (hz18.resolve_right (fun h => by rw [show z18.1 = true by simpa using c1'] at h; cases h.1)).2
   refine RunC.skip ?_
   refine Ad0 ?_
   refine RunE.next ?_
   refine RunC.region ?_
   refine Aa1 (Val.add rfl rfl (IntWalk.i64_in _ ⟨by omega, by omega⟩)) rfl rfl rfl ?_
   refine vp rfl rfl rfl rfl ?_
   refine RunL.nil ?_
   exact Ag2 (z18.2.1, z18.2.2, (k : Int)) (by omega) ⟨hz18.1, hz18.2.1, by rw [hz18.2.2, hye, AU8]⟩ rfl (Ad4 (t := 11) rfl rfl (Sub.cons (t := 3) rfl (Sub.cons (t := 4) rfl (Sub.cons (t := 10) rfl (Sub.nil _))))) (Pick.cnt fun x => by simp only [nC]; omega)
  intro c0
  have c0' := c0; clear c0
  try simp only [nH] at c0'
  obtain rfl : k = c.st.toNat := by omega
  refine RunC.exit ?_
  refine Ac0 ?_
  refine Ac0 ?_
  refine Ab2 ?_
  exact AJ3 (chg := []) (.r0 rfl) (fun _ hm => ⟨y.2.1, hm.pick (Pick.cnt fun x => by simp only [nC]; omega), .inl ⟨_, rfl, .inl ⟨y.1, ⟨hysp, hye⟩, hyI⟩⟩⟩)
-- BO5
theorem AU7 (bv : Nat) (W : World) : Calls Tryz.prog 49 #[pV bv] W (News (fun b => .func (.func 75) #[] #[pV b]) (fun b => [(b, x1O bv)]) W) := by
  refine Aa2 Tryz.func49 rfl rfl ?_
  refine st ?_
  refine zn (New.box rfl) (fun b1 => ?_)
  exact RunE.ret (chg := []) (.r1 rfl (.tmp rfl)) (fun _ hm => ⟨b1, rfl, hm.pick (.cons .here rfl .nil)⟩)
/-! ## What is done to no sets -/
theorem Bq4 (W : World) : Calls Tryz.prog 112 #[.int .u64 0] W (Pure (.int .i64 0) W) := by
  refine Aa2 Tryz.func112 rfl rfl ?_
  refine csr ?_
  refine vp rfl rfl rfl rfl ?_
  refine nnx ?_
  refine RunC.seq ?_
  refine csr ?_
  refine vp rfl rfl rfl rfl ?_
  refine vp rfl rfl rfl rfl ?_
  refine nnx ?_
  refine RunC.cond rfl (fun h => absurd h (by decide)) ?_
  intro c0
  clear c0
  refine RunC.skip ?_
  refine RunE.next ?_
  refine RunC.seq ?_
  refine csr ?_
  refine vp rfl rfl rfl rfl ?_
  refine vp rfl rfl rfl rfl ?_
  refine nnx ?_
  refine RunC.cond rfl (fun h => absurd h (by decide)) ?_
  intro c1
  clear c1
  refine RunC.skip ?_
  refine RunE.next ?_
  refine RunC.seq ?_
  refine csr ?_
  refine vp rfl rfl rfl rfl ?_
  refine vp rfl rfl rfl rfl ?_
  refine nnx ?_
  refine RunC.cond rfl (fun h => absurd h (by decide)) ?_
  intro c2
  clear c2
  refine RunC.skip ?_
  refine RunE.next ?_
  refine csr ?_
  refine vp rfl rfl rfl rfl ?_
  refine vp rfl rfl rfl rfl ?_
  refine Aa1 (Ak4 rfl BR7 BR6 (by decide)) rfl rfl rfl ?_
  refine Aa1 (Bb9 (c := 0) rfl rfl Ce1 (by decide) rfl) rfl rfl rfl ?_
  refine Aa1 (Ak4 rfl BR6 Bn7 (by decide)) rfl rfl rfl ?_
  refine Aa1 (Val.add rfl rfl (by decide)) rfl rfl rfl ?_
  refine vp rfl rfl rfl rfl ?_
  refine nnx ?_
  refine RunC.ret ?_
  exact Aa7 (.r1 rfl (.tmp rfl)) (by first | rfl | simp)
theorem BI9 (W : World) : Calls Tryz.prog 81 #[.int .u64 0] W (Pure (.int .i64 0) W) := by
  refine Aa2 Tryz.func81 rfl rfl ?_
  refine st ?_
  refine Al8 rfl ?_
  refine st ?_
  refine zc (zF rfl BW2) (fun w hm => Bq4 w) ?_
  exact Aa7 (.r1 rfl (.tmp rfl)) (by first | rfl | simp)
theorem Bq6 (g : Value) (W : World) : Calls Tryz.prog 103 #[.slice none 0 0, .int .i64 0, .int .i64 0, g] W (Pure (.tuple #[]) W) := by
  refine Aa2 Tryz.func103 rfl rfl ?_
  refine csr ?_
  refine vp rfl rfl rfl rfl ?_
  refine Aa1 (Val.add rfl rfl (IntWalk.i64_in _ ⟨by omega, by omega⟩)) rfl rfl rfl ?_
  refine vp rfl rfl rfl rfl ?_
  refine nnx ?_
  refine RunC.block ?_
  refine Aq1 0 ?_
  refine RunC.seq ?_
  refine csr ?_
  iterate 3 refine vp rfl rfl rfl rfl ?_
  refine nnx ?_
  refine RunC.cond rfl (fun h => absurd h (by decide)) ?_
  intro c0
  clear c0
  refine RunC.exit ?_
  refine Ac0 ?_
  refine Ac0 ?_
  refine Ab2 ?_
  exact AO0 (.r0 rfl) (by first | rfl | simp)
theorem Bp7 (n : Int) (g : Value) (W : World) : Calls Tryz.prog 80 #[.slice none 0 0, .int .i64 0, .int .i64 0, .int .i64 n, g] W (Pure (.tuple #[]) W) := by
  refine Aa2 Tryz.func80 rfl rfl ?_
  refine csr ?_
  refine vp rfl rfl rfl rfl ?_
  refine nsr ?_
  refine vp rfl rfl rfl rfl ?_
  refine nnx ?_
  refine RunC.block ?_
  refine Aq1 1 ?_
  refine RunC.block ?_
  refine csr ?_
  refine vp rfl rfl rfl rfl ?_
  refine vp rfl rfl rfl rfl ?_
  refine Aa1 (Af3 rfl rfl (IntWalk.i64_in _ ⟨by omega, by omega⟩)) rfl rfl rfl ?_
  refine vp rfl rfl rfl rfl ?_
  refine nnx ?_
  refine RunC.seq ?_
  refine csr ?_
  refine vp rfl rfl rfl rfl ?_
  refine vp rfl rfl rfl rfl ?_
  refine nnx ?_
  refine RunC.cond rfl ?_ (fun h => absurd h (by decide))
  intro c0
  clear c0
  refine csr ?_
  iterate 4 refine vp rfl rfl rfl rfl ?_
  refine Ab3 (Ab7 rfl BW3) rfl rfl rfl (fun w hm => Bq6 g w) ?_
  refine nnx ?_
  refine RunC.ret ?_
  refine Ad6 ?_
  refine Af1 ?_
  refine Ad6 ?_
  refine Af1 ?_
  exact Aa7 (.r0 rfl) (by first | rfl | simp)
theorem Be1 (g : Value) (W : World) : Calls Tryz.prog 54 #[.slice none 0 0, g] W (Pure (.tuple #[]) W) := by
  refine Aa2 Tryz.func54 rfl rfl ?_
  refine csr ?_
  refine vp rfl rfl rfl rfl ?_
  refine Aa1 (Ag7 rfl Bu6) rfl rfl rfl ?_
  refine vp rfl rfl rfl rfl ?_
  refine nnx ?_
  refine RunC.region ?_
  iterate 3 refine vp rfl rfl rfl rfl ?_
  refine Aa1 (Ak4 rfl Bn7 Bt3 (by decide)) rfl rfl rfl ?_
  refine Ab3 (Ab7 rfl Cb0) rfl rfl rfl (fun w hm => BI9 w) ?_
  refine vp rfl rfl rfl rfl ?_
  refine Ab3 (Ab7 rfl Cb1) rfl rfl rfl (fun w hm => Bp7 _ g w) ?_
  refine RunL.nil ?_
  exact AO0 (.r0 rfl) (by first | rfl | simp)
theorem Bg5 (W : World) : Calls Tryz.prog 56 #[.slice none 0 0] W (Pure (.slice none 0 0) W) := by
  refine Aa2 Tryz.func56 rfl rfl ?_
  refine csr ?_
  refine vp rfl rfl rfl rfl ?_
  refine nnx ?_
  refine RunC.seq ?_
  refine csr ?_
  refine vp rfl rfl rfl rfl ?_
  refine Aa1 (Ag7 rfl Bu6) rfl rfl rfl ?_
  refine vp rfl rfl rfl rfl ?_
  refine nnx ?_
  refine RunC.cond rfl ?_ (fun h => absurd h (by decide))
  intro c0
  clear c0
  refine csr ?_
  refine vp rfl rfl rfl rfl ?_
  refine vp rfl rfl rfl rfl ?_
  refine nnx ?_
  refine RunC.ret ?_
  refine Ad6 ?_
  exact Aa7 (.r1 rfl (.tmp rfl)) (by first | rfl | simp)
end Go.Proofs.YthbiaipagceokaaGreat
namespace Go.Proofs.YthbiaipagceokaaGreat
open Go Go.Eng
theorem AV5 : arrNB Tryz.prog 83 = some (2, 1) := by kernel_rfl
theorem Bl6 : Enters Tryz.prog 31 := Aa6 Tryz.func31 (by kernel_rfl) rfl
theorem BP8 : Enters Tryz.prog 33 := Aa6 Tryz.func33 (by kernel_rfl) rfl
theorem Cc6 : Enters Tryz.prog 49 := Aa6 Tryz.func49 (by kernel_rfl) rfl
theorem Bl1 : Enters Tryz.prog 50 := Aa6 Tryz.func50 (by kernel_rfl) rfl
theorem BB4 : Enters Tryz.prog 51 := Aa6 Tryz.func51 (by kernel_rfl) rfl
theorem BB2 : Enters Tryz.prog 53 := Aa6 Tryz.func53 (by kernel_rfl) rfl
theorem Cc5 : Enters Tryz.prog 54 := Aa6 Tryz.func54 (by kernel_rfl) rfl
theorem Cc4 : Enters Tryz.prog 56 := Aa6 Tryz.func56 (by kernel_rfl) rfl
theorem Bt4 : tyB Tryz.prog 91 = some (false, 1) := by kernel_rfl
instance : Tyc Tryz.prog 91 false 1 := ⟨Bt4⟩
theorem BQ7 : zeroB Tryz.prog 91 = some [.slice none 0 0] := by kernel_rfl
end Go.Proofs.YthbiaipagceokaaGreat
