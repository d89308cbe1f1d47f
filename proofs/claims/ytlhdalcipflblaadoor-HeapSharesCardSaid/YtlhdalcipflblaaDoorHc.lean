/- Layer 10, plain: all ways in which cards can have entries. -/
import Derived.Test.YtlhdalcipflblaaDoorEngA
set_option linter.unusedSimpArgs false
set_option linter.unusedVariables false
namespace Go.Hp
def free (f u i : Nat) : Bool := f.testBit i && !u.testBit i
def waysL (ne : Nat) : List Nat → Nat → List (List Nat)
  | [], _ => [[]]
  | f :: fs, u => (List.range ne).flatMap fun i => if free f u i then (waysL ne fs (u ||| 2 ^ i)).map (i :: ·) else []
def cntL (ne : Nat) : List Nat → Nat → Nat
  | [], _ => 1
  | f :: fs, u => ((List.range ne).map fun i => if free f u i then cntL ne fs (u ||| 2 ^ i) else 0).sum
theorem cnt_ways (ne : Nat) : ∀ (fs : List Nat) (u : Nat), cntL ne fs u = (waysL ne fs u).length
  | [], _ => rfl
  | f :: fs, u => by
    simp only [cntL, waysL, List.length_flatMap]
    congr 1
    refine List.map_congr_left fun i _ => ?_
    split
    · rw [List.length_map, cnt_ways ne fs]
    · rfl
/-- A way that goes on from used entries. -/
def WayR (ne : Nat) : List Nat → Nat → List Nat → Prop
  | [], _, [] => True
  | f :: fs, u, i :: l => i < ne ∧ free f u i = true ∧ WayR ne fs (u ||| 2 ^ i) l
  | _, _, _ => False
theorem mem_R {ne : Nat} : ∀ {fs : List Nat} {u : Nat} {l : List Nat}, l ∈ waysL ne fs u ↔ WayR ne fs u l
  | [], u, l => by
    cases l <;> simp [waysL, WayR]
  | f :: fs, u, l => by
    simp only [waysL, List.mem_flatMap, List.mem_range]
    constructor
    · rintro ⟨i, hi, h⟩
      split at h
      · rename_i hf
        obtain ⟨l', h', rfl⟩ := List.mem_map.1 h
        exact ⟨hi, hf, mem_R.1 h'⟩
      · cases h
    · intro h
      cases l with
      | nil => exact h.elim
      | cons i l =>
        obtain ⟨h1, h2, h3⟩ := h
        exact ⟨i, h1, by rw [if_pos h2]; exact List.mem_map.2 ⟨l, mem_R.2 h3, rfl⟩⟩
theorem bit_add (u i x : Nat) : (u ||| 2 ^ i).testBit x = (u.testBit x || decide (i = x)) := by
  rw [Nat.testBit_or, Nat.testBit_two_pow]
structure Way (ne : Nat) (fs : List Nat) (u : Nat) (l : List Nat) : Prop where
  len : l.length = fs.length
  fit : ∀ k (h : k < l.length), l[k] < ne ∧ (fs.getD k 0).testBit l[k] = true
  new : ∀ x ∈ l, u.testBit x = false
  nd : l.Nodup
theorem way_R {ne : Nat} : ∀ {fs : List Nat} {u : Nat} {l : List Nat}, WayR ne fs u l ↔ Way ne fs u l
  | [], u, [] => ⟨fun _ => ⟨rfl, fun k h => absurd h (by simp), fun x hx => (by cases hx), List.nodup_nil⟩, fun _ => trivial⟩
  | [], u, i :: l => ⟨fun h => h.elim, fun h => by have := h.len; simp at this⟩
  | f :: fs, u, [] => ⟨fun h => h.elim, fun h => by have := h.len; simp at this⟩
  | f :: fs, u, i :: l => by
    show (i < ne ∧ free f u i = true ∧ WayR ne fs (u ||| 2 ^ i) l) ↔ _
    rw [way_R]
    simp only [free, Bool.and_eq_true, Bool.not_eq_true']
    constructor
    · rintro ⟨h1, ⟨h2, h3⟩, h4⟩
      refine ⟨by simp [h4.len], ?_, ?_, ?_⟩
      · intro k hk
        cases k with
        | zero => exact ⟨h1, h2⟩
        | succ k => simpa using h4.fit k (by simpa using hk)
      · intro x hx
        rcases List.mem_cons.1 hx with rfl | hx
        · exact h3
        · have := h4.new x hx
          rw [bit_add, Bool.or_eq_false_iff] at this
          exact this.1
      · refine List.nodup_cons.2 ⟨fun hx => ?_, h4.nd⟩
        have := h4.new i hx
        rw [bit_add] at this
        simp at this
    · intro h
      have h0 := h.fit 0 (by simp)
      refine ⟨h0.1, ⟨h0.2, h.new i (by simp)⟩, ⟨by have := h.len; simpa using this, ?_, ?_, (List.nodup_cons.1 h.nd).2⟩⟩
      · intro k hk
        have := h.fit (k + 1) (by simpa using hk)
        simpa using this
      · intro x hx
        rw [bit_add, Bool.or_eq_false_iff]
        refine ⟨h.new x (List.mem_cons_of_mem _ hx), ?_⟩
        rw [decide_eq_false_iff_not]
        rintro rfl
        exact (List.nodup_cons.1 h.nd).1 hx
theorem ways_mem {ne : Nat} {fs : List Nat} {u : Nat} {l : List Nat} : l ∈ waysL ne fs u ↔ Way ne fs u l := mem_R.trans way_R
/-- Lists in order. -/
def lexL : List Nat → List Nat → Prop
  | a :: l, b :: m => a < b ∨ (a = b ∧ lexL l m)
  | _, _ => False
theorem lex_ne : ∀ {l m : List Nat}, lexL l m → l ≠ m
  | a :: l, b :: m, h, e => by
    cases e
    rcases h with h | ⟨_, h⟩
    · omega
    · exact lex_ne h rfl
theorem flat_pw {α β : Type} {R : α → α → Prop} {S : β → β → Prop} {f : α → List β} : ∀ {l : List α}, l.Pairwise R → (∀ a ∈ l, (f a).Pairwise S) → (∀ a b, R a b → ∀ x ∈ f a, ∀ y ∈ f b, S x y) → (l.flatMap f).Pairwise S
  | [], _, _, _ => by simp
  | a :: l, h, h1, h2 => by
    cases h with
    | cons ha hl =>
      rw [List.flatMap_cons]
      refine List.pairwise_append.2 ⟨h1 a (by simp), flat_pw hl (fun b hb => h1 b (List.mem_cons_of_mem _ hb)) h2, fun x hx y hy => ?_⟩
      obtain ⟨b, hb, hy⟩ := List.mem_flatMap.1 hy
      exact h2 a b (ha b hb) x hx y hy
theorem ways_pw (ne : Nat) : ∀ (fs : List Nat) (u : Nat), (waysL ne fs u).Pairwise lexL
  | [], _ => List.pairwise_singleton _ _
  | f :: fs, u => by
    refine flat_pw (R := (· < ·)) List.pairwise_lt_range (fun i _ => ?_) fun a b hab x hx y hy => ?_
    · split
      · exact List.pairwise_map.2 ((ways_pw ne fs _).imp fun h => .inr ⟨rfl, h⟩)
      · exact List.Pairwise.nil
    · split at hx
      · split at hy
        · obtain ⟨x', _, rfl⟩ := List.mem_map.1 hx
          obtain ⟨y', _, rfl⟩ := List.mem_map.1 hy
          exact .inl hab
        · cases hy
      · cases hx
theorem ways_nd (ne : Nat) (fs : List Nat) (u : Nat) : (waysL ne fs u).Nodup := (ways_pw ne fs u).imp lex_ne
/-- With the same members there are as many. -/
theorem nd_len {α : Type} [DecidableEq α] {l m : List α} (hl : l.Nodup) (hm : m.Nodup) (h : ∀ x, x ∈ l ↔ x ∈ m) : l.length = m.length := ((List.perm_ext_iff_of_nodup hl hm).2 (fun {x} => h x)).length_eq
/-- The first one. -/
def firstL (ne : Nat) : List Nat → Nat → List Nat
  | [], _ => []
  | f :: fs, u => match (List.range ne).find? fun i => free f u i && decide (0 < cntL ne fs (u ||| 2 ^ i)) with
    | some i => i :: firstL ne fs (u ||| 2 ^ i)
    | none => firstL ne fs u
theorem flat_head {α β : Type} {f : α → List β} {p : α → Bool} {g : α → Option β} (hp : ∀ a, p a = false → f a = []) (hg : ∀ a, p a = true → (f a).head? = g a ∧ (g a).isSome) : ∀ l : List α, (l.flatMap f).head? = (l.find? p).bind g
  | [] => rfl
  | a :: l => by
    rw [List.flatMap_cons, List.find?_cons]
    cases h : p a with
    | false => rw [hp a h, List.nil_append]; exact flat_head hp hg l
    | true =>
      obtain ⟨h1, h2⟩ := hg a h
      rw [List.head?_append, h1]
      cases h3 : g a with
      | none => rw [h3] at h2; cases h2
      | some x => simp [h3]
theorem first_head (ne : Nat) : ∀ (fs : List Nat) (u : Nat), 0 < cntL ne fs u → (waysL ne fs u).head? = some (firstL ne fs u)
  | [], _, _ => rfl
  | f :: fs, u, h => by
    have e := flat_head (f := fun i => if free f u i then (waysL ne fs (u ||| 2 ^ i)).map (i :: ·) else []) (p := fun i => free f u i && decide (0 < cntL ne fs (u ||| 2 ^ i))) (g := fun i => some (i :: firstL ne fs (u ||| 2 ^ i)))
      (fun i hi => by
        split
        · rename_i hf
          simp only [hf, Bool.true_and, decide_eq_false_iff_not] at hi
          rw [List.map_eq_nil_iff]
          rw [cnt_ways] at hi
          exact List.length_eq_zero_iff.1 (by omega)
        · rfl)
      (fun i hi => by
        rw [Bool.and_eq_true, decide_eq_true_eq] at hi
        rw [if_pos hi.1, List.head?_map, first_head ne fs _ hi.2]
        exact ⟨rfl, rfl⟩) (List.range ne)
    show ((List.range ne).flatMap _).head? = _
    rw [e]
    have e3 : firstL ne (f :: fs) u = match (List.range ne).find? fun i => free f u i && decide (0 < cntL ne fs (u ||| 2 ^ i)) with | some i => i :: firstL ne fs (u ||| 2 ^ i) | none => firstL ne fs u := rfl
    rw [e3]
    cases h2 : (List.range ne).find? (fun i => free f u i && decide (0 < cntL ne fs (u ||| 2 ^ i))) with
    | some i => rfl
    | none =>
      exfalso
      rw [h2] at e
      have h3 : (List.range ne).flatMap (fun i => if free f u i then (waysL ne fs (u ||| 2 ^ i)).map (i :: ·) else []) = [] := List.head?_eq_none_iff.1 e
      have h4 : waysL ne (f :: fs) u = [] := h3
      rw [cnt_ways, h4] at h
      cases h
theorem first_way {ne : Nat} {fs : List Nat} {u : Nat} (h : 0 < cntL ne fs u) : Way ne fs u (firstL ne fs u) := ways_mem.1 (List.mem_of_mem_head? (by rw [first_head ne fs u h]; rfl))
/-- No way comes before the first one. -/
theorem first_le {ne : Nat} {fs : List Nat} {u : Nat} {l : List Nat} (h : Way ne fs u l) : l = firstL ne fs u ∨ lexL (firstL ne fs u) l := by
  have hm := ways_mem.2 h
  have h0 : 0 < cntL ne fs u := by rw [cnt_ways]; exact List.length_pos_of_mem hm
  have h1 := first_head ne fs u h0
  have hp := ways_pw ne fs u
  cases hw : waysL ne fs u with
  | nil => rw [hw] at hm; cases hm
  | cons a t =>
    rw [hw] at h1 hp hm
    cases h1
    rcases List.mem_cons.1 hm with e | e
    · exact .inl e
    · cases hp with
      | cons h2 _ => exact .inr (h2 l e)
/-! ## How often a card is an entry -/
def setC (fs : List Nat) (c e : Nat) : List Nat := fs.set c (fs.getD c 0 &&& 2 ^ e)
theorem setC_get {fs : List Nat} {c e k : Nat} (hc : c < fs.length) : (setC fs c e).getD k 0 = if k = c then fs.getD c 0 &&& 2 ^ e else fs.getD k 0 := by
  unfold setC
  simp only [List.getD_eq_getElem?_getD, List.getElem?_set]
  by_cases h : c = k
  · subst h; simp [hc]
  · have h2 : ¬ k = c := fun e => h e.symm
    simp [h, h2]
theorem setC_way {ne : Nat} {fs : List Nat} {c e : Nat} (hc : c < fs.length) {l : List Nat} : Way ne (setC fs c e) 0 l ↔ Way ne fs 0 l ∧ l.getD c ne = e := by
  have hlen : (setC fs c e).length = fs.length := by simp [setC]
  constructor
  · intro h
    have hl := h.len
    rw [hlen] at hl
    have hcl : c < l.length := by omega
    have hf := h.fit c hcl
    rw [setC_get hc, if_pos rfl, Nat.testBit_and, Nat.testBit_two_pow, Bool.and_eq_true, decide_eq_true_eq] at hf
    refine ⟨⟨hl, fun k hk => ?_, h.new, h.nd⟩, by simp [List.getD_eq_getElem?_getD, hcl, hf.2.2]⟩
    have h2 := h.fit k hk
    rw [setC_get hc] at h2
    by_cases hkc : k = c
    · subst hkc; exact ⟨hf.1, hf.2.1⟩
    · rw [if_neg hkc] at h2; exact h2
  · rintro ⟨h, he⟩
    refine ⟨by rw [hlen]; exact h.len, fun k hk => ?_, h.new, h.nd⟩
    rw [setC_get hc]
    have h2 := h.fit k hk
    by_cases hkc : k = c
    · subst hkc
      rw [if_pos rfl, Nat.testBit_and, Nat.testBit_two_pow]
      have : l.getD k ne = l[k] := by simp [List.getD_eq_getElem?_getD, hk]
      exact ⟨h2.1, by rw [h2.2, ← he, this]; simp⟩
    · rw [if_neg hkc]; exact h2
def shareL (ne : Nat) (fs : List Nat) (c e : Nat) : Nat := cntL ne (setC fs c e) 0
def keyP (ne c e : Nat) (l : List Nat) : Bool := decide (l.getD c ne = e)
theorem share_count {ne : Nat} {fs : List Nat} {c : Nat} (hc : c < fs.length) (e : Nat) : shareL ne fs c e = (waysL ne fs 0).countP (keyP ne c e) := by
  unfold shareL
  rw [cnt_ways, List.countP_eq_length_filter]
  refine nd_len (ways_nd _ _ _) ((ways_nd _ _ _).filter _) fun l => ?_
  rw [ways_mem, setC_way hc, List.mem_filter, ways_mem, keyP, decide_eq_true_eq]
theorem sum_swap {α : Type} {f : α → Nat → Bool} : ∀ (L : List α) (ks : List Nat), (ks.map fun k => L.countP (f · k)).sum = (L.map fun l => ks.countP (f l)).sum
  | [], ks => by
    induction ks with
    | nil => rfl
    | cons k ks ih => simpa using ih
  | l :: L, ks => by
    rw [List.map_cons, List.sum_cons, ← sum_swap L ks]
    induction ks with
    | nil => rfl
    | cons k ks ih =>
      simp only [List.map_cons, List.sum_cons, List.countP_cons] at ih ⊢
      omega
theorem sum_one {α : Type} {g : α → Nat} : ∀ {L : List α}, (∀ l ∈ L, g l = 1) → (L.map g).sum = L.length
  | [], _ => rfl
  | l :: L, h => by
    rw [List.map_cons, List.sum_cons, h l (by simp), sum_one (fun m hm => h m (List.mem_cons_of_mem _ hm)), List.length_cons]
    omega
theorem sum_le {α : Type} {g : α → Nat} : ∀ {L : List α}, (∀ l ∈ L, g l ≤ 1) → (L.map g).sum ≤ L.length
  | [], _ => Nat.le_refl _
  | l :: L, h => by
    have h1 := h l (by simp)
    have h2 := sum_le (L := L) (fun m hm => h m (List.mem_cons_of_mem _ hm))
    rw [List.map_cons, List.sum_cons, List.length_cons]
    omega
theorem countP_range_eq {ne x : Nat} (h : x < ne) : (List.range ne).countP (fun e => decide (x = e)) = 1 := by
  induction ne with
  | zero => omega
  | succ n ih =>
    rw [List.range_succ, List.countP_append, List.countP_cons, List.countP_nil]
    by_cases hx : x = n
    · subst hx
      have : (List.range x).countP (fun e => decide (x = e)) = 0 := by
        rw [List.countP_eq_zero]
        intro a ha
        have := List.mem_range.1 ha
        simp; omega
      rw [this]; simp
    · rw [ih (by omega)]; simp [hx]
/-- The ways of a card are shared among its entries. -/
theorem share_sum {ne : Nat} {fs : List Nat} {c : Nat} (hc : c < fs.length) : ((List.range ne).map (shareL ne fs c)).sum = cntL ne fs 0 := by
  have e : (List.range ne).map (shareL ne fs c) = (List.range ne).map fun k => (waysL ne fs 0).countP (fun l => keyP ne c k l) := List.map_congr_left fun k _ => share_count hc k
  rw [e, sum_swap (f := fun l k => keyP ne c k l), cnt_ways]
  refine sum_one fun l hl => ?_
  have hw := ways_mem.1 hl
  have hcl : c < l.length := by rw [hw.len]; exact hc
  have : l.getD c ne = l[c] := by simp [List.getD_eq_getElem?_getD, hcl]
  show (List.range ne).countP (fun k => decide (l.getD c ne = k)) = 1
  rw [this]
  exact countP_range_eq (hw.fit c hcl).1
theorem share_le {ne : Nat} {fs : List Nat} {c : Nat} (hc : c < fs.length) (e : Nat) : shareL ne fs c e ≤ cntL ne fs 0 := by
  rw [share_count hc, cnt_ways]; exact List.countP_le_length
theorem share_pos {ne : Nat} {fs : List Nat} {c : Nat} (hc : c < fs.length) {e : Nat} : 0 < shareL ne fs c e ↔ ∃ l, Way ne fs 0 l ∧ l.getD c ne = e := by
  rw [share_count hc, List.countP_pos_iff]
  constructor
  · rintro ⟨l, h1, h2⟩; exact ⟨l, ways_mem.1 h1, of_decide_eq_true h2⟩
  · rintro ⟨l, h1, h2⟩; exact ⟨l, ways_mem.2 h1, decide_eq_true h2⟩
theorem share_fit {ne : Nat} {fs : List Nat} {c : Nat} (hc : c < fs.length) {e : Nat} (h : 0 < shareL ne fs c e) : (fs.getD c 0).testBit e = true ∧ e < ne := by
  obtain ⟨l, h1, h2⟩ := (share_pos hc).1 h
  have hcl : c < l.length := by rw [h1.len]; exact hc
  have : l.getD c ne = l[c] := by simp [List.getD_eq_getElem?_getD, hcl]
  rw [this] at h2
  have h3 := h1.fit c hcl
  rw [h2] at h3
  exact ⟨h3.2, h3.1⟩
theorem share_all {ne : Nat} {fs : List Nat} {c : Nat} (hc : c < fs.length) {e : Nat} : shareL ne fs c e = cntL ne fs 0 ↔ ∀ l, Way ne fs 0 l → l.getD c ne = e := by
  rw [share_count hc, cnt_ways, List.countP_eq_length]
  exact ⟨fun h l hl => of_decide_eq_true (h l (ways_mem.2 hl)), fun h l hl => decide_eq_true (h l (ways_mem.1 hl))⟩
/-- How many ways use an entry. -/
def usedL (ne : Nat) (fs : List Nat) (e : Nat) : Nat := ((List.range fs.length).map fun c => shareL ne fs c e).sum
theorem countP_getD (ne e : Nat) : ∀ (l : List Nat), (List.range l.length).countP (fun c => decide (l.getD c ne = e)) = l.count e := by
  intro l
  have h : (List.range l.length).map (fun c => l.getD c ne) = l := by
    refine List.ext_getElem (by simp) fun i h1 h2 => ?_
    simp [List.getD_eq_getElem?_getD, h2]
  conv => rhs; rw [← h]
  rw [List.count, List.countP_map]
  refine List.countP_congr fun x _ => ?_
  simp
theorem used_count {ne : Nat} {fs : List Nat} {e : Nat} (he : e < ne) : usedL ne fs e = (waysL ne fs 0).countP (fun l => decide (e ∈ l)) := by
  unfold usedL
  have e1 : (List.range fs.length).map (fun c => shareL ne fs c e) = (List.range fs.length).map fun c => (waysL ne fs 0).countP (fun l => keyP ne c e l) := List.map_congr_left fun c hc => share_count (List.mem_range.1 hc) e
  rw [e1, sum_swap (f := fun l c => keyP ne c e l)]
  have key : ∀ L : List (List Nat), (∀ l ∈ L, Way ne fs 0 l) → (L.map fun l => (List.range fs.length).countP fun c => keyP ne c e l).sum = L.countP (fun l => decide (e ∈ l)) := by
    intro L
    induction L with
    | nil => intro _; rfl
    | cons l L ih =>
      intro h
      have hw := h l (by simp)
      have e2 : ((List.range fs.length).countP fun c => keyP ne c e l) = l.count e := by
        rw [← hw.len]; exact countP_getD ne e l
      rw [List.map_cons, List.sum_cons, ih (fun m hm => h m (List.mem_cons_of_mem _ hm)), List.countP_cons, e2]
      by_cases hm : e ∈ l
      · rw [hw.nd.count, if_pos hm]; simp [hm]; omega
      · rw [List.count_eq_zero_of_not_mem hm]; simp [hm]
  exact key _ (fun l hl => ways_mem.1 hl)
theorem used_le {ne : Nat} {fs : List Nat} {e : Nat} (he : e < ne) : usedL ne fs e ≤ cntL ne fs 0 := by rw [used_count he, cnt_ways]; exact List.countP_le_length
end Go.Hp
