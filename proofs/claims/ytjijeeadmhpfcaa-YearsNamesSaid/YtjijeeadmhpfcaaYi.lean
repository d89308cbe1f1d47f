/- Walks of package years: the iterator over the things that are seen; what the sets are. -/
import Derived.Test.YtjijeeadmhpfcaaYh
import Derived.Test.YtjijeeadmhpfcaaYt2
import Derived.Test.YtjijeeadmhpfcaaSpec3
set_option linter.unusedSimpArgs false
set_option linter.unusedVariables false
namespace Go.Pw1
open Go Go.Eng
/-- The things that are seen. -/
def seenK (g : Gl) : Nat → List Nat
  | 0 => []
  | k + 1 => if seenG g k then seenK g k ++ [k] else seenK g k
def seenL (g : Gl) : List Nat := seenK g g.f.things.length
theorem seenK_yes {g : Gl} {k : Nat} (h : seenG g k = true) : seenK g (k + 1) = seenK g k ++ [k] := by simp [seenK, h]
theorem seenK_no {g : Gl} {k : Nat} (h : seenG g k = false) : seenK g (k + 1) = seenK g k := by simp [seenK, h]
theorem seenK_len (g : Gl) : ∀ k, (seenK g k).length ≤ k
  | 0 => by simp [seenK]
  | k + 1 => by
    have := seenK_len g k
    unfold seenK
    split <;> (try simp only [List.length_append, List.length_singleton]) <;> omega
theorem seenK_mem (g : Gl) : ∀ k i, i ∈ seenK g k ↔ i < k ∧ seenG g i = true
  | 0, i => by simp [seenK]
  | k + 1, i => by
    unfold seenK
    split
    · rename_i h
      rw [List.mem_append, seenK_mem g k i, List.mem_singleton]
      constructor
      · rintro (⟨h1, h2⟩ | rfl)
        · exact ⟨by omega, h2⟩
        · exact ⟨by omega, h⟩
      · rintro ⟨h1, h2⟩
        by_cases hi : i = k
        · exact .inr hi
        · exact .inl ⟨by omega, h2⟩
    · rename_i h
      rw [seenK_mem g k i]
      constructor
      · rintro ⟨h1, h2⟩; exact ⟨by omega, h2⟩
      · rintro ⟨h1, h2⟩
        refine ⟨?_, h2⟩
        by_cases hi : i = k
        · subst hi; exact absurd h2 h
        · omega
/-- A thing that is seen. -/
abbrev Sn (g : Gl) := { i : Nat // seenG g i = true }
def vals {g : Gl} (l : List (Sn g)) : List Nat := l.map (·.1)
theorem vals_snoc {g : Gl} (l : List (Sn g)) (x : Sn g) : vals (l ++ [x]) = vals l ++ [x.1] := by simp [vals]
def seenA (g : Gl) : Nat → List (Sn g)
  | 0 => []
  | k + 1 => if h : seenG g k = true then seenA g k ++ [⟨k, h⟩] else seenA g k
theorem seenA_yes {g : Gl} {k : Nat} (h : seenG g k = true) : seenA g (k + 1) = seenA g k ++ [⟨k, h⟩] := by simp [seenA, h]
theorem seenA_no {g : Gl} {k : Nat} (h : seenG g k = false) : seenA g (k + 1) = seenA g k := by simp [seenA, h]
theorem seenA_len (g : Gl) : ∀ k, (seenA g k).length ≤ k
  | 0 => by simp [seenA]
  | k + 1 => by
    have := seenA_len g k
    unfold seenA
    split <;> (try simp only [List.length_append, List.length_singleton]) <;> omega
theorem seenA_vals (g : Gl) : ∀ k, vals (seenA g k) = seenK g k
  | 0 => rfl
  | k + 1 => by
    unfold seenA seenK
    split
    · rw [vals_snoc, seenA_vals g k]
    · exact seenA_vals g k
theorem seenL_mem {g : Gl} {i : Nat} : i ∈ seenL g ↔ i < g.f.things.length ∧ seenG g i = true := seenK_mem g _ i
/-- The set of those of which something is so. -/
def setL (p : Nat → Bool) (l : List Nat) : Nat := l.foldl (fun s i => if p i then s ||| 2 ^ i else s) 0
theorem setL_snoc (p : Nat → Bool) (l : List Nat) (i : Nat) : setL p (l ++ [i]) = if p i then setL p l ||| 2 ^ i else setL p l := by simp [setL, List.foldl_append]
theorem setL_lt {p : Nat → Bool} {m : Nat} : ∀ {l : List Nat}, (∀ i ∈ l, i < m) → setL p l < 2 ^ m := by
  intro l h
  have key : ∀ (l : List Nat) (s : Nat), s < 2 ^ m → (∀ i ∈ l, i < m) → l.foldl (fun s i => if p i then s ||| 2 ^ i else s) s < 2 ^ m := by
    intro l
    induction l with
    | nil => intro s hs _; exact hs
    | cons i l ih =>
      intro s hs hl
      refine ih _ ?_ (fun j hj => hl j (by simp [hj]))
      show (if p i then s ||| 2 ^ i else s) < 2 ^ m
      split
      · exact Nat.or_lt_two_pow hs (Nat.pow_lt_pow_right (by decide) (hl i (by simp)))
      · exact hs
  exact key l 0 (Nat.two_pow_pos m) h
theorem setL_bit {p : Nat → Bool} {l : List Nat} {j : Nat} : (setL p l).testBit j = (decide (j ∈ l) && p j) := by
  have key : ∀ (l : List Nat) (s : Nat), (l.foldl (fun s i => if p i then s ||| 2 ^ i else s) s).testBit j = (s.testBit j || (decide (j ∈ l) && p j)) := by
    intro l
    induction l with
    | nil => intro s; simp
    | cons i l ih =>
      intro s
      rw [List.foldl_cons, ih]
      by_cases hij : j = i
      · subst hij
        cases hp : p j <;> simp [hp, Nat.testBit_or, Nat.testBit_two_pow]
      · have h1 : (decide (j ∈ i :: l)) = decide (j ∈ l) := by simp [hij]
        rw [h1]
        split
        · rw [Nat.testBit_or, Nat.testBit_two_pow]
          have : decide (i = j) = false := by simp; omega
          rw [this]; simp
        · rfl
  have := key l 0
  simpa [setL] using this
def mvZ (g : Gl) (i : Nat) : Int × Int := movedZ (farG g i)
def only0 (s : Int × Int) : Bool := decide (s.1 = 0) && decide (s.2 = 0)
def has0 (s : Int × Int) : Bool := decide (s.1 ≤ 0) && decide (0 ≤ s.2)
def sureB (g : Gl) (i : Nat) : Bool := only0 (mvZ g i) && only0 (sankZ g i (farG g i))
def canB (g : Gl) (i : Nat) : Bool := has0 (mvZ g i) && has0 (sankZ g i (farG g i))
def gStays (g : Gl) : (Int × Int) × Int := match openG g true with
  | .error k => ((0, 0), k)
  | .ok _ => (((setL (sureB g) (seenL g) : Nat), (setL (canB g) (seenL g) : Nat)), 0)
/-- The least of the greatest numbers by which things moved; and whether there is one. -/
def leastF (g : Gl) (l : List Nat) : Int × Bool := l.foldl (fun a i => if !a.2 || decide ((mvZ g i).2 < a.1) then ((mvZ g i).2, true) else a) (0, false)
theorem leastF_snoc (g : Gl) (l : List Nat) (i : Nat) : leastF g (l ++ [i]) = if !(leastF g l).2 || decide ((mvZ g i).2 < (leastF g l).1) then ((mvZ g i).2, true) else leastF g l := by simp [leastF, List.foldl_append]
def gFastest (g : Gl) : Int × Int := match openG g true with
  | .error k => (0, k)
  | .ok _ => ((setL (fun i => decide ((mvZ g i).1 ≤ (leastF g (seenL g)).1)) (seenL g) : Nat), 0)
/-- The things that can have moved alike, thing i having moved the least. -/
def alikeS (g : Gl) (even : Int) (i : Nat) : Nat := setL (fun k => decide ((mvZ g i).2 ≤ (mvZ g k).2) && decide ((mvZ g k).1 ≤ (mvZ g i).2 + even)) (seenL g)
def offerS (best s : Nat) : Nat := if pc best 12 < pc s 12 ∨ (pc s 12 = pc best 12 ∧ s < best) then s else best
def alikeL (g : Gl) (even : Int) (l : List Nat) : Nat := l.foldl (fun b i => offerS b (alikeS g even i)) 0
theorem alikeL_snoc (g : Gl) (even : Int) (l : List Nat) (i : Nat) : alikeL g even (l ++ [i]) = offerS (alikeL g even l) (alikeS g even i) := by simp [alikeL, List.foldl_append]
def gAlike (g : Gl) (even : Int) : Int × Int := match openG g (within even 0 1073741824) with
  | .error k => (0, k)
  | .ok _ => ((alikeL g even (seenL g) : Nat), 0)
theorem openG_pairs {g : Gl} {v : Bool} {u : Unit} (h : openG g v = .ok u) : g.f.Ok ∧ g.s.Ok ∧ g.f.things.length = g.s.things.length := by
  unfold openG at h
  split at h
  · rename_i hf
    simp only [fitG, within, Bool.and_eq_true, decide_eq_true_eq, Bool.not_eq_true', decide_eq_false_iff_not] at hf
    have key : ∀ p : Pr, ¬ (powerX p).2 = 1 → p.Ok := fun p hp => by
      cases hi : isPair p with
      | true => exact isPair_ok hi
      | false =>
        exfalso; apply hp
        unfold powerX truthsX openX
        rw [hi]; rfl
    exact ⟨key _ hf.1.2, key _ hf.2, by omega⟩
  · cases h
end Go.Pw1
namespace Go.Proofs.Ytjijeeadmhpfcaa
open Go Go.Eng Go.Pw1

structure SeenY (g : Gl) (a : Ga) (bg b1 : Nat) (W : World) : Prop where
  v : W.heap[bg]? = some (.cells (g.cells a).toArray 110 (0, 0))
  x : W.heap[b1]? = some (.cells [.pointer (some ⟨bg, 0, none⟩)].toArray 65 (0, 0))
  s : GIn W g a
theorem SeenY.mem {g : Gl} {a : Ga} {bg b1 : Nat} {W w : World} {news : Blks} (h : SeenY g a bg b1 W) (hm : Mem W [] news w) : SeenY g a bg b1 w := ⟨hm.old_at h.v (by simp), hm.old_at h.x (by simp), h.s.mono hm⟩
structure SafeY (g : Gl) (a : Ga) (bg b1 B : Nat) (nm : List Nat) : Prop where
  v : bg < B ∧ bg ∉ nm
  x : b1 < B ∧ b1 ∉ nm
  s1 : g.f.things.map Th.cells ≠ [] → a.b1 < B ∧ a.b1 ∉ nm
  s2 : g.s.things.map Th.cells ≠ [] → a.b2 < B ∧ a.b2 ∉ nm
theorem SeenY.kp {g : Gl} {a : Ga} {bg b1 B : Nat} {nm : List Nat} {W W' : World} (h : SeenY g a bg b1 W) (hs : SafeY g a bg b1 B nm) (hk : KpX B nm W W') : SeenY g a bg b1 W' :=
  ⟨(hk bg hs.v.1 hs.v.2).trans h.v, (hk b1 hs.x.1 hs.x.2).trans h.x, h.s.s1.kp (fun hne => hk a.b1 (hs.s1 hne).1 (hs.s1 hne).2), h.s.s2.kp (fun hne => hk a.b2 (hs.s2 hne).1 (hs.s2 hne).2), h.s.l1, h.s.l2⟩
theorem yseen_calls (bg : Nat) (W : World) : Calls Try.prog 56 #[.pointer (some ⟨bg, 0, none⟩)] W (News (fun b => .func (.func 81) #[] #[.pointer (some ⟨b, 0, none⟩)]) (fun b => [(b, .cells [.pointer (some ⟨bg, 0, none⟩)].toArray 65 (0, 0))]) W) := by
  refine calls_start Try.func56 rfl rfl ?_
  refine RunC.seq ?_
  refine RunC.region ?_
  refine RunL.new (New.box rfl) rfl rfl rfl (fun b1 => ?_)
  refine RunL.val (Val.pure rfl) rfl rfl rfl ?_
  refine RunL.nil ?_
  refine RunE.next ?_
  refine RunC.seq ?_
  refine RunC.region ?_
  refine RunL.val (Val.pure rfl) rfl rfl rfl ?_
  refine RunL.val (Val.pure rfl) rfl rfl rfl ?_
  refine RunL.nil ?_
  refine RunE.next ?_
  refine RunC.ret ?_
  exact RunE.ret (chg := []) (.r1 rfl (.tmp rfl)) (fun _ hm => ⟨b1, rfl, hm⟩)
set_option maxHeartbeats 2000000 in
theorem seen_stops (g : Gl) (a : Ga) (bg b1 : Nat) (w0 : World) (nm : List Nat) (hlen : g.f.things.length ≤ 12) (h0 : SeenY g a bg b1 w0) (hs : SafeY g a bg b1 w0.heap.size nm) :
    SeqStopsK (Fr none) 8 Try.prog 81 #[.pointer (some ⟨b1, 0, none⟩)] (fun x : Sn g => #[.int .i64 (x.1 : Int), z2v (farG g x.1)]) (KpX w0.heap.size nm) (fun xs => xs = seenA g g.f.things.length) (fun _ => True) 100 w0 := by
  unfold SeqStopsK
  intro l J Jx W hW hJ hJx hY hJ0
  have hSn : SeenY g a bg b1 W := ⟨(hW.block bg hs.v.1).trans h0.v, (hW.block b1 hs.x.1).trans h0.x, h0.s.s1.kp (fun hne => hW.block a.b1 (hs.s1 hne).1), h0.s.s2.kp (fun hne => hW.block a.b2 (hs.s2 hne).1), h0.s.l1, h0.s.l2⟩
  have hJm : ∀ {s : List (Sn g)} {A C : World} {news : Blks}, J s A → Mem A [] news C → J s C := fun h hm => hJ _ _ _ none h hm.grown (fun r e => by cases e)
  have hJxm : ∀ {s : List (Sn g)} {A C : World} {news : Blks}, Jx s A → Mem A [] news C → Jx s C := fun h hm => hJx _ _ _ none h hm.grown (fun r e => by cases e)
  have hYY : ∀ (pre : List (Sn g)) (x : Sn g) (A : World), J pre A → pre.length < 100 → SeenY g a bg b1 A → YieldAt (Fr none) 8 Try.prog l #[.int .i64 (x.1 : Int), z2v (farG g x.1)] A (fun e w' => ∃ y, e = .returned (.bool y) ∧ ((y = true ∧ J (pre ++ [x]) w' ∧ SeenY g a bg b1 w') ∨ (y = false ∧ Jx (pre ++ [x]) w'))) := fun pre x A h1 h2 h3 =>
    yieldAt_any (hY pre x A h1 h2) (fun e w' hh => by
      rcases hh with ⟨rfl, hh, hk⟩ | ⟨rfl, hh⟩
      · exact ⟨true, rfl, .inl ⟨rfl, hh, h3.kp hs hk⟩⟩
      · exact ⟨false, rfl, .inr ⟨rfl, hh⟩⟩)
  refine callsIn_start (vs := [.func (.yield l) #[] #[], .pointer (some ⟨b1, 0, none⟩)]) Try.func81 rfl rfl ?_ 8
  refine RunCR.scope ?_
  refine RunCR.seq ?_
  refine RunCR.label ?_
  refine RunER.next ?_
  refine RunCR.seq ?_
  refine RunCR.region ?_
  refine RunLR.val (Val.oload_one rfl hSn.x (by simp) ty_65 rfl) rfl rfl rfl ?_
  refine RunLR.val (Val.pure rfl) rfl rfl rfl ?_
  refine RunLR.val (Val.fieldAddr rfl fld_110_0) rfl rfl rfl ?_
  refine RunLR.val (Val.fieldAddr rfl fld_28_0) rfl rfl rfl ?_
  refine RunLR.val (Val.fieldAddr rfl fld_26_5) rfl rfl rfl ?_
  refine RunLR.val (Val.oload_one rfl hSn.v (by simp) ty_24 rfl) rfl rfl rfl ?_
  refine RunLR.val (Val.len_sl rfl sl_24) rfl rfl rfl ?_
  refine RunLR.val (Val.pure rfl) rfl rfl rfl ?_
  refine RunLR.nil ?_
  refine RunER.next ?_
  refine RunCR.block ?_
  refine RunCR.loopW (g.f.things.length) (fun k q => (13, .int .i64 (k : Int)) :: q) (fun k Wk => J (seenA g k) Wk ∧ SeenY g a bg b1 Wk) (fun w hm => ⟨hJm hJ0 hm, hSn.mem hm⟩) (Sub.consE (t := 13) rfl rfl (Sub.cons (t := 0) rfl (Sub.cons (t := 1) rfl (Sub.cons (t := 12) rfl (Sub.nil _))))) ?_
  intro k Wk kN kI
  obtain ⟨hJk, hSk⟩ := kI
  refine RunCR.seq ?_
  refine RunCR.region ?_
  refine RunLR.val (Val.pure rfl) rfl rfl rfl ?_
  refine RunLR.nil ?_
  refine RunER.next ?_
  refine RunCR.seq ?_
  refine RunCR.cond rfl ?_ ?_
  · intro c0
    have c0' := c0; clear c0
    try simp only [decide_eq_true_eq, decide_eq_false_iff_not, Bool.not_eq_true', Bool.not_eq_false', Bool.and_eq_true, Bool.or_eq_true, Bool.and_eq_false_iff, Bool.or_eq_false_iff, Int.not_le, Int.not_lt] at c0'
    have hk : k < g.f.things.length := by omega
    refine RunCR.skip ?_
    refine RunER.next ?_
    refine RunCR.seq ?_
    refine RunCR.block ?_
    refine RunCR.seq ?_
    refine RunCR.region ?_
    refine RunLR.val (Val.pure rfl) rfl rfl rfl ?_
    refine RunLR.val (Val.pure rfl) rfl rfl rfl ?_
    refine RunLR.nil ?_
    refine RunER.next ?_
    refine RunCR.seq ?_
    refine RunCR.region ?_
    refine RunLR.val (Val.oload_one rfl hSk.x (by simp) ty_65 rfl) rfl rfl rfl ?_
    refine RunLR.val (Val.pure rfl) rfl rfl rfl ?_
    refine RunLR.callP (isCall_func rfl ent_41) rfl rfl rfl (fun w hm => yfar_calls g a k bg w (hm.old_at hSk.v (by simp)) (hSk.s.mono hm)) ?_
    iterate 3 refine RunLR.val (Val.pure rfl) rfl rfl rfl ?_
    refine RunLR.new (New.alloc zero_72) rfl rfl rfl (fun b4 => ?_)
    refine RunLR.sto (Sto.store rfl rfl .here ty_72 rfl rfl) rfl rfl ?_
    refine RunLR.val (Val.pure rfl) rfl rfl rfl ?_
    refine RunLR.nil ?_
    refine RunER.next ?_
    refine RunCR.seq ?_
    refine RunCR.seq ?_
    refine RunCR.region ?_
    refine RunLR.val (Val.pure rfl) rfl rfl rfl ?_
    refine RunLR.val (Val.pure rfl) rfl rfl rfl ?_
    refine RunLR.nil ?_
    refine RunER.next ?_
    refine RunCR.cond rfl ?_ ?_
    · intro c1
      have c1' := c1; clear c1
      try simp only [decide_eq_true_eq, decide_eq_false_iff_not, Bool.not_eq_true', Bool.not_eq_false', Bool.and_eq_true, Bool.or_eq_true, Bool.and_eq_false_iff, Bool.or_eq_false_iff, Int.not_le, Int.not_lt] at c1'
      refine RunCR.exit ?_
      refine RunE.pass_exit ?_
      refine RunE.block_here ?_
      refine RunER.next ?_
      refine RunCR.region ?_
      refine RunLR.val (Val.add rfl rfl (IntWalk.i64_in _ ⟨by omega, by omega⟩)) rfl rfl rfl ?_
      refine RunLR.val (Val.pure rfl) rfl rfl rfl ?_
      refine RunLR.nil ?_
      exact RunE.roundW (by omega) (fun w hm => (by first | exact ⟨by rw [seenA_no c1']; exact hJm hJk hm, hSk.mem hm⟩ | (rcases h27 with ⟨_, hJ2, hS2⟩ | ⟨h, _⟩; exact ⟨by rw [seenA_yes c1']; exact hJm hJ2 hm, hS2.mem hm⟩; rw [h] at c2'; cases c2'))) (Sub.consE (t := 13) rfl rfl (Sub.cons (t := 0) rfl (Sub.cons (t := 1) rfl (Sub.cons (t := 12) rfl (Sub.nil _)))))
    · intro c1
      have c1' := c1; clear c1
      try simp only [decide_eq_true_eq, decide_eq_false_iff_not, Bool.not_eq_true', Bool.not_eq_false', Bool.and_eq_true, Bool.or_eq_true, Bool.and_eq_false_iff, Bool.or_eq_false_iff, Int.not_le, Int.not_lt] at c1'
      refine RunCR.skip ?_
      refine RunER.next ?_
      refine RunCR.seq ?_
      refine RunCR.region ?_
      refine RunLR.val (Val.pure rfl) rfl rfl rfl ?_
      refine RunLR.val (Val.pure rfl) rfl rfl rfl ?_
      refine RunLR.val (Val.load_agg rfl (.head _) ty_72 rfl) rfl rfl rfl ?_
      refine RunLR.yield (RY := fun y w' => (y = true ∧ J (seenA g k ++ [(⟨k, c1'⟩ : Sn g)]) w' ∧ SeenY g a bg b1 w') ∨ (y = false ∧ Jx (seenA g k ++ [(⟨k, c1'⟩ : Sn g)]) w')) (isYield_value rfl rfl) rfl rfl rfl (fun w hm => hYY _ (⟨k, c1'⟩ : Sn g) w (hJm hJk hm) (by have := seenA_len g k; omega) (hSk.mem hm)) ?_
      intro y27 W27 h27
      refine RunLR.val (Val.pure rfl) rfl rfl rfl ?_
      refine RunLR.nil ?_
      refine RunER.next ?_
      refine RunCR.cond rfl ?_ ?_
      · intro c2
        have c2' := c2; clear c2
        try simp only [decide_eq_true_eq, decide_eq_false_iff_not, Bool.not_eq_true', Bool.not_eq_false', Bool.and_eq_true, Bool.or_eq_true, Bool.and_eq_false_iff, Bool.or_eq_false_iff, Int.not_le, Int.not_lt] at c2'
        refine RunCR.ret ?_
        refine RunE.block_ret ?_
        refine RunE.pass_ret ?_
        refine RunE.pass_ret ?_
        refine RunE.block_ret ?_
        refine RunE.scope_ret ?_
        intro a w2 s
        rcases h27 with ⟨h, _⟩ | ⟨_, hX2⟩
        · rw [h] at c2'; cases c2'
        · exact ⟨s.defers, _, results_none rfl _ _ _, ⟨_, rfl⟩, .inr ⟨_, trivial, hJxm hX2 s.mem⟩⟩
      · intro c2
        have c2' := c2; clear c2
        try simp only [decide_eq_true_eq, decide_eq_false_iff_not, Bool.not_eq_true', Bool.not_eq_false', Bool.and_eq_true, Bool.or_eq_true, Bool.and_eq_false_iff, Bool.or_eq_false_iff, Int.not_le, Int.not_lt] at c2'
        refine RunCR.skip ?_
        refine RunE.block_normal ?_
        refine RunER.next ?_
        refine RunCR.region ?_
        refine RunLR.val (Val.add rfl rfl (IntWalk.i64_in _ ⟨by omega, by omega⟩)) rfl rfl rfl ?_
        refine RunLR.val (Val.pure rfl) rfl rfl rfl ?_
        refine RunLR.nil ?_
        exact RunE.roundW (by omega) (fun w hm => (by first | exact ⟨by rw [seenA_no c1']; exact hJm hJk hm, hSk.mem hm⟩ | (rcases h27 with ⟨_, hJ2, hS2⟩ | ⟨h, _⟩; exact ⟨by rw [seenA_yes c1']; exact hJm hJ2 hm, hS2.mem hm⟩; rw [h] at c2'; cases c2'))) (Sub.consE (t := 13) rfl rfl (Sub.cons (t := 0) rfl (Sub.cons (t := 1) rfl (Sub.cons (t := 12) rfl (Sub.nil _)))))
  · intro c0
    have c0' := c0; clear c0
    try simp only [decide_eq_true_eq, decide_eq_false_iff_not, Bool.not_eq_true', Bool.not_eq_false', Bool.and_eq_true, Bool.or_eq_true, Bool.and_eq_false_iff, Bool.or_eq_false_iff, Int.not_le, Int.not_lt] at c0'
    obtain rfl : k = g.f.things.length := by omega
    refine RunCR.exit ?_
    refine RunE.pass_exit ?_
    refine RunE.pass_exit ?_
    refine RunE.block_here ?_
    refine RunE.scope_normal ?_
    intro a w2 s
    exact ⟨s.defers, _, results_none rfl _ _ _, ⟨_, rfl⟩, .inl ⟨_, rfl, hJm hJk s.mem⟩⟩
end Go.Proofs.Ytjijeeadmhpfcaa
