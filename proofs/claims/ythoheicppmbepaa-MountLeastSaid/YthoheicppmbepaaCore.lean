/- The engine: what a state of a walk is, and the rules of code. No program is in sight. -/
import Derived.WalkKit
namespace Go.Eng
open Go Go.RowKit

/-! ## Registers -/
abbrev Regs := List (Nat × Value)
def rget : Regs → Nat → Option Value
  | [], _ => none
  | (k, v) :: r, t => match Nat.beq k t with | true => some v | false => rget r t
def rev (r : Regs) : Operand → Option Value
  | .tmp t => rget r t
  | .const v => some v
  | .global g => some (.pointer (some ⟨g, 0, none⟩))
  | .func f => some (.func (.func f) #[] #[])
def revs (r : Regs) : List Operand → Option (List Value)
  | [] => some []
  | x :: xs => match rev r x with
    | none => none
    | some v => match revs r xs with
      | none => none
      | some vs => some (v :: vs)
def Agree (a : Act) (r : Regs) : Prop := ∀ t v, rget r t = some v → a.tmps[t]? = some v

theorem Agree.eval {a : Act} {r : Regs} (h : Agree a r) {x : Operand} {v : Value} (hx : rev r x = some v) : a.eval x = v := by
  cases x with
  | tmp t => have := h t v hx; simp [Act.eval, this]
  | const u => simp only [rev, Option.some.injEq] at hx; exact hx
  | global g => simpa [rev, Act.eval] using hx
  | func f => simpa [rev, Act.eval] using hx

theorem Agree.evals {a : Act} {r : Regs} (h : Agree a r) : ∀ {xs : List Operand} {vs : List Value}, revs r xs = some vs → xs.map a.eval = vs
  | [], vs, hx => by simp [revs] at hx; simp [hx]
  | x :: xs, vs, hx => by
    simp only [revs] at hx
    split at hx
    · cases hx
    · rename_i v hv
      split at hx
      · cases hx
      · rename_i us hus
        cases hx
        simp [h.eval hv, h.evals hus]

theorem Agree.put {a : Act} {r : Regs} (h : Agree a r) {d : Nat} {v : Value} (hd : d < a.tmps.size) : Agree (a.put (some d) v) ((d, v) :: r) := by
  intro t u ht
  simp only [rget] at ht
  split at ht
  · rename_i he
    have : d = t := Nat.eq_of_beq_eq_true he
    subst this
    cases ht
    simp [Act.put, hd]
  · rename_i he
    have : d ≠ t := fun e => by subst e; simp at he
    have := h t u ht
    simp [Act.put, Array.getElem?_setIfInBounds_ne ‹d ≠ t›, this]

/-- Every row of 'q' is so in 'r'. -/
def Sub (q r : Regs) : Prop := ∀ t v, rget q t = some v → rget r t = some v
theorem Sub.nil (r : Regs) : Sub [] r := fun _ _ h => by cases h
theorem Sub.cons {q r : Regs} {t : Nat} {v : Value} (h : rget r t = some v) (hs : Sub q r) : Sub ((t, v) :: q) r := by
  intro t' v' h'
  simp only [rget] at h'
  split at h'
  · rename_i he; have := Nat.eq_of_beq_eq_true he; subst this; cases h'; exact h
  · exact hs _ _ h'
theorem Sub.refl (r : Regs) : Sub r r := fun _ _ h => h
theorem Agree.sub {a : Act} {q r : Regs} (h : Agree a r) (hs : Sub q r) : Agree a q := fun t v ht => h t v (hs t v ht)

/-! ## Memory -/
abbrev Blks := List (Nat × Obj)
/-- As W was, but for the blocks 'chg', which hold what is said; and the blocks 'news' lie beyond W, and hold what is said. -/
structure Mem (W : World) (chg news : Blks) (w : World) : Prop where
  os : w.os = W.os
  tape : w.tape = W.tape
  output : w.output = W.output
  size : W.heap.size ≤ w.heap.size
  old : ∀ k, k < W.heap.size → (∀ o, (k, o) ∉ chg) → w.heap[k]? = W.heap[k]?
  chgd : ∀ b o, (b, o) ∈ chg → b < W.heap.size ∧ w.heap[b]? = some o
  newd : ∀ b o, (b, o) ∈ news → W.heap.size ≤ b ∧ w.heap[b]? = some o
  once : ((chg ++ news).map (·.1)).Nodup

theorem Mem.refl (W : World) : Mem W [] [] W :=
  ⟨rfl, rfl, rfl, Nat.le_refl _, fun _ _ _ => rfl, fun _ _ h => by simp at h, fun _ _ h => by simp at h, by simp⟩

theorem Mem.start {W : World} {b : Nat} {o : Obj} (h : W.heap[b]? = some o) : Mem W [(b, o)] [] W :=
  ⟨rfl, rfl, rfl, Nat.le_refl _, fun _ _ _ => rfl, fun b' o' h' => by
    simp at h'; obtain ⟨rfl, rfl⟩ := h'; exact ⟨lt_of_block h, h⟩, fun _ _ h => by simp at h, by simp⟩

theorem Mem.below {W w : World} (h : Mem W [] [] w) : Below W.heap.size W w :=
  ⟨h.os, h.tape, h.output, h.size, fun k hk => h.old k hk (fun _ hm => by cases hm)⟩
theorem Mem.of_below {W w : World} (h : Below W.heap.size W w) : Mem W [] [] w :=
  ⟨h.os, h.tape, h.output, h.size, fun k hk _ => h.block k hk, fun _ _ h => (by simp at h), fun _ _ h => (by simp at h), by simp⟩

/-- Fewer new blocks are told of. -/
theorem Mem.fewer {W w : World} {chg news news' : Blks} (h : Mem W chg news w) (hs : news'.Sublist news) : Mem W chg news' w :=
  { h with newd := fun b o hb => h.newd b o (hs.mem hb), once := h.once.sublist ((List.Sublist.append (List.Sublist.refl _) hs).map _) }

theorem Mem.drop {W w : World} {chg news : Blks} (h : Mem W chg news w) : Mem W chg [] w := h.fewer (List.nil_sublist _)

theorem Mem.lt_new {W w : World} {chg news : Blks} (h : Mem W chg news w) {b : Nat} {o : Obj} (hb : (b, o) ∈ chg ++ news) : b < w.heap.size := by
  rcases List.mem_append.1 hb with hb | hb
  · exact lt_of_block (h.chgd b o hb).2
  · exact lt_of_block (h.newd b o hb).2

theorem Mem.at {W w : World} {chg news : Blks} (h : Mem W chg news w) {b : Nat} {o : Obj} (hb : (b, o) ∈ chg ++ news) : w.heap[b]? = some o := by
  rcases List.mem_append.1 hb with hb | hb
  · exact (h.chgd b o hb).2
  · exact (h.newd b o hb).2

theorem Mem.drew {W w : World} {chg news : Blks} (h : Mem W chg news w) : Mem W chg news w.drew := ⟨h.os, h.tape, h.output, h.size, h.old, h.chgd, h.newd, h.once⟩

/-- A new block. -/
theorem Mem.alloc {W w : World} {chg news : Blks} (h : Mem W chg news w) (o : Obj) : Mem W chg ((w.heap.size, o) :: news) (w.alloc o) where
  os := h.os
  tape := h.tape
  output := h.output
  size := by have := h.size; simp; omega
  old := fun k hk hc => by rw [Below.heap_alloc w o k (by have := h.size; omega)]; exact h.old k hk hc
  chgd := fun b o' hb => ⟨(h.chgd b o' hb).1, by rw [Below.heap_alloc w o b (lt_of_block (h.chgd b o' hb).2)]; exact (h.chgd b o' hb).2⟩
  newd := fun b o' hb => by
    rcases List.mem_cons.1 hb with he | hb
    · cases he; exact ⟨h.size, heap_alloc_new w o⟩
    · exact ⟨(h.newd b o' hb).1, by rw [Below.heap_alloc w o b (lt_of_block (h.newd b o' hb).2)]; exact (h.newd b o' hb).2⟩
  once := by
    have h1 := h.once
    have hlt : ∀ b o', (b, o') ∈ chg ++ news → b ≠ w.heap.size := fun b o' hb => Nat.ne_of_lt (h.lt_new hb)
    simp only [List.map_append, List.map_cons, List.nodup_append, List.nodup_cons] at h1 ⊢
    obtain ⟨a1, a2, a3⟩ := h1
    refine ⟨a1, ⟨?_, a2⟩, ?_⟩
    · intro hm; obtain ⟨⟨b, o'⟩, hb, he⟩ := List.mem_map.1 hm; exact hlt b o' (List.mem_append_right _ hb) he
    · intro x hx y hy
      rcases List.mem_cons.1 hy with rfl | hy
      · obtain ⟨⟨b, o'⟩, hb, he⟩ := List.mem_map.1 hx; subst he; exact hlt b o' (List.mem_append_left _ hb)
      · exact a3 x hx y hy

/-- Block b is 'o' in place of what it was. -/
inductive Upd : Blks → Nat → Obj → Obj → Blks → Prop
  | here {b : Nat} {o o' : Obj} {r : Blks} : Upd ((b, o) :: r) b o o' ((b, o') :: r)
  | there {b : Nat} {o o' : Obj} {x : Nat × Obj} {r r' : Blks} (h : Upd r b o o' r') : Upd (x :: r) b o o' (x :: r')

theorem Upd.keys {l l' : Blks} {b : Nat} {o o' : Obj} (h : Upd l b o o' l') : l'.map (·.1) = l.map (·.1) := by
  induction h with
  | here => rfl
  | there _ ih => simp [ih]
theorem Upd.mem {l l' : Blks} {b : Nat} {o o' : Obj} (h : Upd l b o o' l') : (b, o) ∈ l := by
  induction h with
  | here => simp
  | there _ ih => simp [ih]
theorem Upd.mem' {l l' : Blks} {b : Nat} {o o' : Obj} (h : Upd l b o o' l') : (b, o') ∈ l' := by
  induction h with
  | here => simp
  | there _ ih => simp [ih]
theorem Upd.other {l l' : Blks} {b : Nat} {o o' : Obj} (h : Upd l b o o' l') (hn : (l.map (·.1)).Nodup) {k : Nat} {x : Obj} (hk : (k, x) ∈ l') : (k = b ∧ x = o') ∨ (k ≠ b ∧ (k, x) ∈ l) := by
  induction h with
  | here =>
    rcases List.mem_cons.1 hk with he | hk'
    · cases he; exact .inl ⟨rfl, rfl⟩
    · refine .inr ⟨?_, List.mem_cons_of_mem _ hk'⟩
      rintro rfl
      simp only [List.map_cons, List.nodup_cons] at hn
      exact hn.1 (List.mem_map.2 ⟨(_, x), hk', rfl⟩)
  | there h ih =>
    simp only [List.map_cons, List.nodup_cons] at hn
    rcases List.mem_cons.1 hk with he | hk
    · refine .inr ⟨?_, by rw [he]; simp⟩
      rintro rfl
      exact hn.1 (by rw [← he]; exact List.mem_map.2 ⟨_, h.mem, rfl⟩)
    · rcases ih hn.2 hk with h' | ⟨h1, h2⟩
      · exact .inl h'
      · exact .inr ⟨h1, List.mem_cons_of_mem _ h2⟩

/-- What a store, or a callee, does to one block: a change in the list in which it stands. -/
theorem Mem.upd_new {W w w' : World} {chg news news' : Blks} (h : Mem W chg news w) {b : Nat} {o o' : Obj} (hu : Upd news b o o' news')
    (h1 : w'.os = w.os) (h2 : w'.tape = w.tape) (h3 : w'.output = w.output) (h4 : w.heap.size ≤ w'.heap.size) (h5 : ∀ k, k < w.heap.size → k ≠ b → w'.heap[k]? = w.heap[k]?) (h6 : w'.heap[b]? = some o') : Mem W chg news' w' where
  os := h1.trans h.os
  tape := h2.trans h.tape
  output := h3.trans h.output
  size := Nat.le_trans h.size h4
  old := fun k hk hc => by
    have hb := (h.newd b o hu.mem).1
    rw [h5 k (by have := h.size; omega) (by omega)]; exact h.old k hk hc
  chgd := fun k x hk => by
    have hb := (h.newd b o hu.mem).1
    have hc := h.chgd k x hk
    exact ⟨hc.1, by rw [h5 k (lt_of_block hc.2) (by omega)]; exact hc.2⟩
  newd := fun k x hk => by
    have hn : (news.map (·.1)).Nodup := by have := h.once; rw [List.map_append, List.nodup_append] at this; exact this.2.1
    rcases hu.other hn hk with ⟨rfl, rfl⟩ | ⟨hne, hm⟩
    · exact ⟨(h.newd _ o hu.mem).1, h6⟩
    · have := h.newd k x hm; exact ⟨this.1, by rw [h5 k (lt_of_block this.2) hne]; exact this.2⟩
  once := by have := h.once; rw [List.map_append] at this ⊢; rw [hu.keys]; exact this

theorem Mem.upd_chg {W w w' : World} {chg chg' news : Blks} (h : Mem W chg news w) {b : Nat} {o o' : Obj} (hu : Upd chg b o o' chg')
    (h1 : w'.os = w.os) (h2 : w'.tape = w.tape) (h3 : w'.output = w.output) (h4 : w.heap.size ≤ w'.heap.size) (h5 : ∀ k, k < w.heap.size → k ≠ b → w'.heap[k]? = w.heap[k]?) (h6 : w'.heap[b]? = some o') : Mem W chg' news w' where
  os := h1.trans h.os
  tape := h2.trans h.tape
  output := h3.trans h.output
  size := Nat.le_trans h.size h4
  old := fun k hk hc => by
    have hkeys := hu.keys
    have hkb : k ≠ b := fun e => hc o' (by rw [e]; exact hu.mem')
    rw [h5 k (by have := h.size; omega) hkb]
    refine h.old k hk (fun x hx => ?_)
    have : k ∈ chg'.map (·.1) := by rw [hkeys]; exact List.mem_map.2 ⟨(k, x), hx, rfl⟩
    obtain ⟨⟨k', y⟩, hy, rfl⟩ := List.mem_map.1 this
    exact hc y hy
  chgd := fun k x hk => by
    have hn : (chg.map (·.1)).Nodup := by have := h.once; rw [List.map_append, List.nodup_append] at this; exact this.1
    rcases hu.other hn hk with ⟨rfl, rfl⟩ | ⟨hne, hm⟩
    · exact ⟨(h.chgd _ o hu.mem).1, h6⟩
    · have := h.chgd k x hm; exact ⟨this.1, by rw [h5 k (lt_of_block this.2) hne]; exact this.2⟩
  newd := fun k x hk => by
    have hb := (h.chgd b o hu.mem).1
    have hc := h.newd k x hk
    exact ⟨hc.1, by rw [h5 k (lt_of_block hc.2) (by omega)]; exact hc.2⟩
  once := by have := h.once; rw [List.map_append] at this ⊢; rw [hu.keys]; exact this

/-- A callee that leaves all as it was: its own new blocks come to the caller's. -/
theorem Mem.trans {W w w' : World} {chg news news' : Blks} (h : Mem W chg news w) (h' : Mem w [] news' w') : Mem W chg (news' ++ news) w' where
  os := h'.os.trans h.os
  tape := h'.tape.trans h.tape
  output := h'.output.trans h.output
  size := Nat.le_trans h.size h'.size
  old := fun k hk hc => by rw [h'.old k (by have := h.size; omega) (fun _ hm => by cases hm)]; exact h.old k hk hc
  chgd := fun b o hb => by
    have := h.chgd b o hb
    exact ⟨this.1, by rw [h'.old b (lt_of_block this.2) (fun _ hm => by cases hm)]; exact this.2⟩
  newd := fun b o hb => by
    rcases List.mem_append.1 hb with hb | hb
    · have := h'.newd b o hb; exact ⟨Nat.le_trans h.size this.1, this.2⟩
    · have := h.newd b o hb; exact ⟨this.1, by rw [h'.old b (lt_of_block this.2) (fun _ hm => by cases hm)]; exact this.2⟩
  once := by
    have h1 := h.once
    have h2 := h'.once
    simp only [List.map_append, List.nodup_append, List.nil_append] at h1 h2 ⊢
    obtain ⟨a1, a2, a3⟩ := h1
    have far : ∀ x ∈ news'.map (·.1), ∀ b o, (b, o) ∈ chg ++ news → b ≠ x := fun x hx b o hb => by
      obtain ⟨⟨k, y⟩, hk, rfl⟩ := List.mem_map.1 hx
      have := (h'.newd k y hk).1
      have := h.lt_new hb
      simp; omega
    refine ⟨a1, ⟨h2, a2, fun x hx y hy => ?_⟩, fun x hx y hy => ?_⟩
    · obtain ⟨⟨k, z⟩, hk, rfl⟩ := List.mem_map.1 hy
      exact (far x hx k z (List.mem_append_right _ hk)).symm
    · obtain ⟨⟨k, z⟩, hk, rfl⟩ := List.mem_map.1 hx
      rcases List.mem_append.1 hy with hy | hy
      · exact far y hy k z (List.mem_append_left _ hk)
      · exact a3 _ (List.mem_map.2 ⟨_, hk, rfl⟩) y hy

theorem Mem.pass {W w w' : World} {chg news : Blks} (h : Mem W chg news w) (h' : Mem w [] [] w') : Mem W chg news w' := by simpa using h.trans h'

/-- A cell of old memory. -/
theorem Mem.cell {W w : World} {chg news : Blks} (h : Mem W chg news w) {p : Addr} (hp : p.block < W.heap.size) (hc : ∀ o, (p.block, o) ∉ chg) : w.cell? p = W.cell? p :=
  World.cell?_of_block (w := W) (h.old p.block hp hc)

/-- A store. -/
theorem Mem.store_new {W w : World} {chg news news' : Blks} (h : Mem W chg news w) {b off : Nat} {cs : Array Value} {T : TypeId} {fr : Nat × Nat} {v : Value}
    (hu : Upd news b (.cells cs T fr) (.cells (cs.setIfInBounds off v) T fr) news') : Mem W chg news' (w.setCell ⟨b, off, none⟩ v) :=
  h.upd_new hu rfl rfl rfl (by simp [World.setCell]) (fun k _ hk => Below.heap_setCell w ⟨b, off, none⟩ v k hk) (by
    have hb := (h.newd _ _ hu.mem).2
    have hlt := lt_of_block hb
    have h' : w.heap[b] = .cells cs T fr := by simpa [Array.getElem?_eq_getElem hlt] using hb
    show (w.heap.modify b _)[b]? = _
    rw [Array.getElem?_eq_getElem (by simpa using hlt), Array.getElem_modify_self, h']
    rfl)
theorem Mem.store_chg {W w : World} {chg chg' news : Blks} (h : Mem W chg news w) {b off : Nat} {cs : Array Value} {T : TypeId} {fr : Nat × Nat} {v : Value}
    (hu : Upd chg b (.cells cs T fr) (.cells (cs.setIfInBounds off v) T fr) chg') : Mem W chg' news (w.setCell ⟨b, off, none⟩ v) :=
  h.upd_chg hu rfl rfl rfl (by simp [World.setCell]) (fun k _ hk => Below.heap_setCell w ⟨b, off, none⟩ v k hk) (by
    have hb := (h.chgd _ _ hu.mem).2
    have hlt := lt_of_block hb
    have h' : w.heap[b] = .cells cs T fr := by simpa [Array.getElem?_eq_getElem hlt] using hb
    show (w.heap.modify b _)[b]? = _
    rw [Array.getElem?_eq_getElem (by simpa using hlt), Array.getElem_modify_self, h']
    rfl)

/-! ## States -/
structure St (n : Nat) (r : Regs) (ds : List Deferred) (W : World) (chg news : Blks) (a : Act) (w : World) : Prop where
  size : a.tmps.size = n
  agree : Agree a r
  defers : a.defers = ds
  mem : Mem W chg news w

theorem St.put {n : Nat} {r : Regs} {ds : List Deferred} {W : World} {chg news : Blks} {a : Act} {w : World} (h : St n r ds W chg news a w) {d : Nat} (hd : d < n) (v : Value) : St n ((d, v) :: r) ds W chg news (a.put (some d) v) w :=
  ⟨by simp [Act.put, h.size], h.agree.put (by rw [h.size]; exact hd), h.defers, h.mem⟩
theorem St.put_none {n : Nat} {r : Regs} {ds : List Deferred} {W : World} {chg news : Blks} {a : Act} {w : World} (h : St n r ds W chg news a w) (v : Value) : St n r ds W chg news (a.put none v) w := h
theorem St.sub {n : Nat} {q r : Regs} {ds : List Deferred} {W : World} {chg news news' : Blks} {a : Act} {w : World} (h : St n r ds W chg news a w) (hs : Sub q r) (hn : news'.Sublist news) : St n q ds W chg news' a w :=
  ⟨h.size, h.agree.sub hs, h.defers, h.mem.fewer hn⟩

/-- Code, a list of operations, and an exit, from whatever meets a state. -/
def RunC (P : Program) (Q : Exit → Act → World → Prop) (n : Nat) (c : Code) (r : Regs) (ds : List Deferred) (W : World) (chg news : Blks) : Prop :=
  ∀ a w, St n r ds W chg news a w → c.wp P Q a w
def RunL (P : Program) (ops : Array Oper) (Q : Exit → Act → World → Prop) (n : Nat) (l : List Oper) (r : Regs) (ds : List Deferred) (W : World) (chg news : Blks) : Prop :=
  ∀ a w, St n r ds W chg news a w → wpList P ops Q l a w
def RunE (Q : Exit → Act → World → Prop) (n : Nat) (e : Exit) (r : Regs) (ds : List Deferred) (W : World) (chg news : Blks) : Prop :=
  ∀ a w, St n r ds W chg news a w → Q e a w

section
variable {P : Program} {ops : Array Oper} {Q : Exit → Act → World → Prop} {n : Nat} {r : Regs} {ds : List Deferred} {W : World} {chg news : Blks}

theorem RunC.seq {x y : Code} (h : RunC P (Exit.then (y.wp P Q) Q) n x r ds W chg news) : RunC P Q n (.seq x y) r ds W chg news := fun a w s => wp_seq (h a w s)
theorem RunC.block {id : Nat} {c : Code} (h : RunC P (Exit.inBlock id Q) n c r ds W chg news) : RunC P Q n (.block id c) r ds W chg news := fun a w s => wp_block (h a w s)
theorem RunC.skip (h : RunE Q n .normal r ds W chg news) : RunC P Q n .skip r ds W chg news := fun a w s => wp_skip (h a w s)
theorem RunC.label {l : Nat} (h : RunE Q n .normal r ds W chg news) : RunC P Q n (.label l) r ds W chg news := fun a w s => wp_label (h a w s)
theorem RunC.exit {id : Nat} (h : RunE Q n (.exit id) r ds W chg news) : RunC P Q n (.exit id) r ds W chg news := fun a w s => wp_exit (h a w s)
theorem RunC.ret (h : RunE Q n .ret r ds W chg news) : RunC P Q n .ret r ds W chg news := fun a w s => wp_ret (h a w s)
theorem RunC.cond {c : Operand} {x y : Code} {t : Bool} (hc : rev r c = some (.bool t)) (ht : t = true → RunC P Q n x r ds W chg news) (hf : t = false → RunC P Q n y r ds W chg news) :
    RunC P Q n (.cond c x y) r ds W chg news := fun a w s => by
  refine wp_cond (s.agree.eval hc) ?_
  cases t
  · exact hf rfl a w s
  · exact ht rfl a w s
theorem RunC.cond_true {c : Operand} {x y : Code} (hc : rev r c = some (.bool true)) (ht : RunC P Q n x r ds W chg news) : RunC P Q n (.cond c x y) r ds W chg news :=
  RunC.cond hc (fun _ => ht) (fun h => by cases h)
theorem RunC.cond_false {c : Operand} {x y : Code} (hc : rev r c = some (.bool false)) (hf : RunC P Q n y r ds W chg news) : RunC P Q n (.cond c x y) r ds W chg news :=
  RunC.cond hc (fun h => by cases h) (fun _ => hf)
theorem RunC.region {id : Nat} {l : List Oper} (h : RunL P l.toArray Q n l r ds W chg news) : RunC P Q n (.region id l.toArray false) r ds W chg news := fun a w s => wp_region_lit (h a w s)
theorem RunL.nil (h : RunE Q n .normal r ds W chg news) : RunL P ops Q n [] r ds W chg news := fun a w s => h a w s

theorem RunE.next {y : Code} {Q' : Exit → Act → World → Prop} (h : RunC P Q n y r ds W chg news) : RunE (Exit.then (y.wp P Q) Q') n .normal r ds W chg news := fun a w s => h a w s
theorem RunE.pass_exit {K : Act → World → Prop} {id : Nat} (h : RunE Q n (.exit id) r ds W chg news) : RunE (Exit.then K Q) n (.exit id) r ds W chg news := fun a w s => h a w s
theorem RunE.pass_ret {K : Act → World → Prop} (h : RunE Q n .ret r ds W chg news) : RunE (Exit.then K Q) n .ret r ds W chg news := fun a w s => h a w s
theorem RunE.block_normal {id : Nat} (h : RunE Q n .normal r ds W chg news) : RunE (Exit.inBlock id Q) n .normal r ds W chg news := fun a w s => h a w s
theorem RunE.block_ret {id : Nat} (h : RunE Q n .ret r ds W chg news) : RunE (Exit.inBlock id Q) n .ret r ds W chg news := fun a w s => h a w s
theorem RunE.block_here {id : Nat} (h : RunE Q n .normal r ds W chg news) : RunE (Exit.inBlock id Q) n (.exit id) r ds W chg news := fun a w s => by simpa [Exit.inBlock] using h a w s
theorem RunE.block_other {id id' : Nat} (hne : Nat.beq id id' = false) (h : RunE Q n (.exit id') r ds W chg news) : RunE (Exit.inBlock id Q) n (.exit id') r ds W chg news := fun a w s => by
  have : id' ≠ id := fun e => by subst e; simp at hne
  simpa [Exit.inBlock, this] using h a w s

theorem RunC.sub {c : Code} (q : Regs) (news' : Blks) (hs : Sub q r) (hn : news'.Sublist news) (h : RunC P Q n c q ds W chg news') : RunC P Q n c r ds W chg news := fun a w s => h a w (s.sub hs hn)
theorem RunL.sub {l : List Oper} (q : Regs) (news' : Blks) (hs : Sub q r) (hn : news'.Sublist news) (h : RunL P ops Q n l q ds W chg news') : RunL P ops Q n l r ds W chg news := fun a w s => h a w (s.sub hs hn)
theorem RunE.sub {e : Exit} (q : Regs) (news' : Blks) (hs : Sub q r) (hn : news'.Sublist news) (h : RunE Q n e q ds W chg news') : RunE Q n e r ds W chg news := fun a w s => h a w (s.sub hs hn)

/-- A loop: a family of states, of which each round leads to a lesser one. -/
theorem RunC.loop {ι : Type} {body : Code} (R : ι → Regs) (Cg Nw : ι → Blks) (Inv : ι → Prop) (μ : ι → Nat) (x0 : ι) (h0 : Inv x0) (hs : Sub (R x0) r) (hc : chg = Cg x0) (hn : (Nw x0).Sublist news)
    (hb : ∀ x, Inv x → RunC P (Exit.then (fun a w => ∃ y, Inv y ∧ μ y < μ x ∧ St n (R y) ds W (Cg y) (Nw y) a w) Q) n body (R x) ds W (Cg x) (Nw x)) :
    RunC P Q n (.loop body) r ds W chg news := by
  have key : ∀ (m : Nat) x, μ x < m → Inv x → ∀ a w, St n (R x) ds W (Cg x) (Nw x) a w → Code.rounds P body Q m a w := by
    intro m
    induction m with
    | zero => intro x h; omega
    | succ m ih =>
      intro x hx hi a w s
      rw [rounds_succ]
      refine wp_mono (hb x hi a w s) ?_
      rintro e a2 w2 hq
      cases e with
      | normal =>
        obtain ⟨y, hy, hlt, sy⟩ := hq
        exact ih y (by omega) hy a2 w2 sy
      | exit id => exact hq
      | goto l => exact hq
      | ret => exact hq
      | panic c => exact hq
      | outgrown => exact hq
  intro a w s
  subst hc
  exact wp_loop_rounds _ (key _ x0 (Nat.lt_succ_self _) h0 a w (s.sub hs hn))

theorem RunE.again {ι : Type} {R : ι → Regs} {Cg Nw : ι → Blks} {Inv : ι → Prop} {μ : ι → Nat} {x : ι} (y : ι) (hy : Inv y) (hm : μ y < μ x) (hs : Sub (R y) r) (hc : chg = Cg y) (hn : (Nw y).Sublist news) :
    RunE (Exit.then (fun a w => ∃ y, Inv y ∧ μ y < μ x ∧ St n (R y) ds W (Cg y) (Nw y) a w) Q) n .normal r ds W chg news := fun a w s => ⟨y, hy, hm, by subst hc; exact s.sub hs hn⟩
end
end Go.Eng
