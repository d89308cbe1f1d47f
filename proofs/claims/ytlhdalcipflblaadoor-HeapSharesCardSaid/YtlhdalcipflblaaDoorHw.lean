/- Layer 10, plain: ways that go on, and whether there is one. -/
import Derived.Test.YtlhdalcipflblaaDoorHv
set_option linter.unusedSimpArgs false
set_option linter.unusedVariables false
namespace Go.Hp
open Go Go.Eng Go.Pw1 Go.Proofs.YtlhdalcipflblaaDoor
/-- Entries of the first cards, no two the same. -/
structure PW (ne : Nat) (fs own : List Nat) (other : Nat) : Prop where
  le : own.length ≤ fs.length
  fit : ∀ k (h : k < own.length), own[k] < ne ∧ (fs.getD k 0).testBit own[k] = true
  nd : own.Nodup
  ot : ∀ x, other.testBit x = decide (x ∈ own)
  lt : other < 2 ^ 12
theorem PW.nil (ne : Nat) (fs : List Nat) : PW ne fs [] 0 := ⟨Nat.zero_le _, fun k h => absurd h (by simp), List.nodup_nil, fun x => by simp, by decide⟩
theorem getD_at {fs : List Nat} {k f : Nat} (hk : k < fs.length) (hf : fs[k] = f) : fs.getD k 0 = f := by
  rw [← hf]; simp [List.getD_eq_getElem?_getD, hk]
theorem PW.snoc {ne : Nat} {fs own : List Nat} {other j f : Nat} (h : PW ne fs own other) (hk : own.length < fs.length) (hf : fs[own.length] = f) (hj : j < ne) (hn : ne ≤ 12) (hb : f.testBit j = true) (ho : other.testBit j = false) : PW ne fs (own ++ [j]) (other ||| 2 ^ j) := by
  refine ⟨by simp; omega, fun k hk2 => ?_, ?_, fun x => ?_, Nat.or_lt_two_pow h.lt (Nat.pow_lt_pow_right (by decide) (by omega))⟩
  · rw [List.getElem_append]
    split
    · rename_i h1
      exact h.fit k h1
    · rename_i h1
      have : k = own.length := by simp at hk2; omega
      subst this
      simp only [Nat.sub_self, List.getElem_cons_zero]
      exact ⟨hj, by rw [getD_at hk hf]; exact hb⟩
  · rw [List.nodup_append]
    refine ⟨h.nd, by simp, fun a ha b hb2 e => ?_⟩
    rw [List.mem_singleton] at hb2
    subst hb2
    subst e
    rw [h.ot, decide_eq_false_iff_not] at ho
    exact ho ha
  · rw [bit_add, h.ot]
    by_cases e : j = x
    · subst e; simp
    · have e2 : ¬ x = j := fun h => e h.symm
      simp [e, e2]
theorem PW.way {ne : Nat} {fs own : List Nat} {other : Nat} (h : PW ne fs own other) (hl : own.length = fs.length) : Way ne fs 0 own := ⟨hl, h.fit, fun x _ => by simp, h.nd⟩
theorem way_pos {ne : Nat} {fs l : List Nat} (h : Way ne fs 0 l) : 0 < cntL ne fs 0 := by
  rw [cnt_ways]
  exact List.length_pos_of_mem (ways_mem.2 h)
theorem pos_way {ne : Nat} {fs : List Nat} (h : 0 < cntL ne fs 0) : ∃ l, Way ne fs 0 l := ⟨_, first_way h⟩
/-! ## There is a way just if no set is short -/
theorem union_bit (s : Nat) : ∀ (l : List Nat) (i x : Nat), (unionL s i l).testBit x = (List.range l.length).any fun c => s.testBit (i + c) && (l.getD c 0).testBit x
  | [], i, x => by simp [unionL]
  | f :: l, i, x => by
    unfold unionL
    rw [Nat.testBit_or, union_bit s l (i + 1) x, List.length_cons, List.range_succ_eq_map, List.any_cons, List.any_map]
    congr 1
    · cases h : s.testBit i <;> simp [h]
    · refine congrArg (fun p => (List.range l.length).any p) ?_
      funext c
      simp only [Function.comp, List.getD_cons_succ]
      rw [show i + 1 + c = i + (c + 1) by omega]
theorem pc_count (s : Nat) : ∀ k, pc s k = (List.range k).countP s.testBit
  | 0 => rfl
  | k + 1 => by
    show pc s k + s / 2 ^ k % 2 = _
    rw [List.range_succ, List.countP_append, pc_count s k, bit_one]
    simp [List.countP_cons]
theorem pc_top12 {s n : Nat} (hn : n ≤ 12) (h : s < 2 ^ n) : pc s 12 = (List.range n).countP s.testBit := by rw [pc12 hn h, pc_count]
theorem unionL_lt {ne : Nat} (s : Nat) : ∀ (l : List Nat) (i : Nat), (∀ f ∈ l, f < 2 ^ ne) → unionL s i l < 2 ^ ne
  | [], i, _ => Nat.two_pow_pos _
  | f :: l, i, h => by
    unfold unionL
    refine Nat.or_lt_two_pow ?_ (unionL_lt s l (i + 1) fun g hg => h g (List.mem_cons_of_mem _ hg))
    split
    · exact h f (List.mem_cons_self ..)
    · exact Nat.two_pow_pos _
/-- The cards of a set. -/
def cardsOf (n s : Nat) : List Nat := (List.range n).filter s.testBit
theorem nb_union {ne : Nat} (hn : ne ≤ 12) {fs : List Nat} (hf : ∀ f ∈ fs, f < 2 ^ ne) (s : Nat) : nb ne (fitN fs) (cardsOf fs.length s) = pc (unionL s 0 fs) 12 := by
  rw [pc_top12 hn (unionL_lt s fs 0 hf)]
  unfold nb
  refine List.countP_congr fun e _ => ?_
  rw [union_bit]
  unfold cardsOf
  rw [List.any_filter]
  simp [fitN, List.any_eq_true]
theorem cards_len {n s : Nat} (hn : n ≤ 12) (h : s < 2 ^ n) : (cardsOf n s).length = pc s 12 := by
  rw [pc_top12 hn h, List.countP_eq_length_filter]; rfl
theorem way_short {ne : Nat} (hn : ne ≤ 12) {fs l : List Nat} (hf : ∀ f ∈ fs, f < 2 ^ ne) (hfl : fs.length ≤ 8) (h : Way ne fs 0 l) {s : Nat} (hs : s < 2 ^ fs.length) : shortX fs s = false := by
  have h1 := way_no h (S := cardsOf fs.length s) (List.nodup_range.filter _) (fun c hc => List.mem_range.1 (List.mem_filter.1 hc).1)
  rw [nb_union hn hf, cards_len (by omega) hs] at h1
  unfold shortX
  exact decide_eq_false (by omega)
/-- The set of a list of numbers. -/
def setL (S : List Nat) : Nat := S.foldr (fun c s => 2 ^ c ||| s) 0
theorem setL_bit (x : Nat) : ∀ S : List Nat, (setL S).testBit x = decide (x ∈ S)
  | [] => by simp [setL]
  | c :: S => by
    have ih := setL_bit x S
    show (2 ^ c ||| setL S).testBit x = _
    rw [Nat.testBit_or, Nat.testBit_two_pow, ih]
    by_cases e : c = x
    · subst e; simp
    · have e2 : ¬ x = c := fun h => e h.symm
      simp [e, e2]
theorem setL_lt {n : Nat} : ∀ {S : List Nat}, (∀ c ∈ S, c < n) → setL S < 2 ^ n
  | [], _ => Nat.two_pow_pos _
  | c :: S, h => Nat.or_lt_two_pow (Nat.pow_lt_pow_right (by decide) (h c (List.mem_cons_self ..))) (setL_lt fun d hd => h d (List.mem_cons_of_mem _ hd))
theorem cards_setL {n : Nat} {S : List Nat} (h : ∀ c ∈ S, c < n) (x : Nat) : x ∈ cardsOf n (setL S) ↔ x ∈ S := by
  unfold cardsOf
  rw [List.mem_filter, setL_bit, List.mem_range, decide_eq_true_eq]
  exact ⟨fun h => h.2, fun hx => ⟨h x hx, hx⟩⟩
theorem no_short {ne : Nat} (hn : ne ≤ 12) {fs : List Nat} (hf : ∀ f ∈ fs, f < 2 ^ ne) (hfl : fs.length ≤ 8) (h : ∀ s, s < 2 ^ fs.length → shortX fs s = false) : ∃ l, Way ne fs 0 l := by
  refine way_of fun S hS hb => ?_
  have h1 := h (setL S) (setL_lt hb)
  unfold shortX at h1
  rw [decide_eq_false_iff_not, ← nb_union hn hf, ← cards_len (by omega) (setL_lt hb)] at h1
  have e1 : (cardsOf fs.length (setL S)).length = S.length := nd_len (List.nodup_range.filter _) hS (cards_setL hb)
  have e2 : nb ne (fitN fs) (cardsOf fs.length (setL S)) = nb ne (fitN fs) S := by
    unfold nb
    refine List.countP_congr fun e _ => ?_
    simp only [List.any_eq_true]
    exact ⟨fun ⟨c, h2, h3⟩ => ⟨c, (cards_setL hb c).1 h2, h3⟩, fun ⟨c, h2, h3⟩ => ⟨c, (cards_setL hb c).2 h2, h3⟩⟩
  omega
/-- Why there is none, just if there is none. -/
theorem why_cnt {m : MxA} (hX : mixedX m.pl = true) {s e : Nat} (hI : WhyIs (fsX m.pl) s e) : e = 0 ↔ 0 < cntX m.pl := by
  obtain ⟨h4, h8, h12⟩ := mixed_ok hX
  have hfl := fs_len m
  have hlt := fs_lt m
  constructor
  · intro he
    have h0 : ∀ t, t < 2 ^ (fsX m.pl).length → shortX (fsX m.pl) t = false := fun t ht => by
      cases hsh : shortX (fsX m.pl) t with
      | false => rfl
      | true =>
        obtain ⟨h1, _⟩ := hI.min t ht hsh
        rcases hI.se with ⟨h2, _⟩ | ⟨_, h2, _⟩ <;> omega
    obtain ⟨l, hl⟩ := no_short h12 hlt (by omega) h0
    exact way_pos hl
  · intro hc
    obtain ⟨l, hl⟩ := pos_way (ne := (esX m).length) (fs := fsX m.pl) hc
    rcases hI.se with ⟨_, h2⟩ | ⟨_, _, h2⟩
    · exact h2
    · rw [way_short h12 hlt (by omega) hl hI.lt] at h2
      cases h2
theorem lex_at : ∀ {l m : List Nat}, lexL l m → ∀ i (h1 : i < l.length) (h2 : i < m.length), l.take i = m.take i → l[i] ≠ m[i] → l[i] < m[i]
  | a :: l, b :: m, h, 0, _, _, _, hne => by
    rcases h with h | ⟨h, _⟩
    · exact h
    · exact absurd h hne
  | a :: l, b :: m, h, i + 1, h1, h2, ht, hne => by
    simp only [List.take_succ_cons, List.cons.injEq] at ht
    rcases h with h | ⟨_, h⟩
    · omega
    · exact lex_at h i (by simpa using h1) (by simpa using h2) ht.2 hne
  | [], _, h, _, _, _, _, _ => h.elim
  | _ :: _, [], h, _, _, _, _, _ => h.elim
/-- The set of the first ones. -/
structure UsedIs (l : List Nat) (u : Nat) : Prop where
  bit : ∀ x, u.testBit x = decide (x ∈ l)
  lt : u < 2 ^ 12
theorem UsedIs.nil : UsedIs [] 0 := ⟨fun x => by simp, by decide⟩
theorem UsedIs.snoc {l : List Nat} {u j : Nat} (h : UsedIs l u) (hj : j < 12) : UsedIs (l ++ [j]) (u ||| 2 ^ j) :=
  ⟨fun x => by
    rw [bit_add, h.bit]
    by_cases e : j = x
    · subst e; simp
    · have e2 : ¬ x = j := fun h => e h.symm
      simp [e, e2], Nat.or_lt_two_pow h.lt (Nat.pow_lt_pow_right (by decide) hj)⟩
theorem used_new {l : List Nat} {u k : Nat} (hnd : l.Nodup) (hk : k < l.length) (h : UsedIs (l.take k) u) : u.testBit l[k] = false := by
  rw [h.bit, decide_eq_false_iff_not]
  intro hm
  obtain ⟨i, hi, he⟩ := List.getElem_of_mem hm
  simp only [List.length_take] at hi
  rw [List.getElem_take] at he
  exact absurd (nd_inj hnd (by omega) hk he) (by omega)
end Go.Hp
