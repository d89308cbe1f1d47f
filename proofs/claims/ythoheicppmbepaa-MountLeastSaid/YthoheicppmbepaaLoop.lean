/- The engine: loops that count, slices that came in, functions that defer. No program is in sight. -/
import Derived.Test.YthoheicppmbepaaDraw
namespace Go.Eng
open Go Go.RowKit

theorem Sub.consE {q r : Regs} {t : Nat} {u v : Value} (h : rget r t = some u) (he : u = v) (hs : Sub q r) : Sub ((t, v) :: q) r := Sub.cons (by rw [h, he]) hs

section
variable {P : Program} {ops : Array Oper} {Q : Exit → Act → World → Prop} {n : Nat} {r : Regs} {ds : List Deferred} {W : World} {chg news : Blks} {rest : List Oper}
variable {d : Nat} {ty : TypeId} {pos : String} {after : Array Edge} {dst : Option Tmp} {gd : Option (Nat × Bool)}

theorem RunC.keep {c : Code} {q : Regs} {news' : Blks} (hs : Sub q r) (hn : Pick news' news) (h : RunC P Q n c q ds W chg news') : RunC P Q n c r ds W chg news := fun a w s => h a w (s.pick hs hn)
theorem RunL.keep {l : List Oper} {q : Regs} {news' : Blks} (hs : Sub q r) (hn : Pick news' news) (h : RunL P ops Q n l q ds W chg news') : RunL P ops Q n l r ds W chg news := fun a w s => h a w (s.pick hs hn)
theorem RunE.keep {e : Exit} {q : Regs} {news' : Blks} (hs : Sub q r) (hn : Pick news' news) (h : RunE Q n e q ds W chg news') : RunE Q n e r ds W chg news := fun a w s => h a w (s.pick hs hn)

/-- What a round of a loop that counts must come to. -/
def Round (n : Nat) (ds : List Deferred) (W : World) (chg : Nat → Blks) (N : Nat) (Inv : Nat → Prop) (R : Nat → Regs) (Nw : Nat → Blks) (k : Nat) (a : Act) (w : World) : Prop :=
  ∃ k', k < k' ∧ k' ≤ N ∧ Inv k' ∧ St n (R k') ds W (chg k') (Nw k') a w
/-- A loop that counts its rounds: at the head of round k the registers R k hold what they do, besides those that never turn; and so do the blocks V k. -/
theorem RunC.loopK {body : Code} {q : Regs} {n0 : Blks} (N : Nat) (R : Nat → Regs → Regs) (C V : Nat → Blks) (Inv : Nat → Prop) (h0 : Inv 0) (hc : chg = C 0) (hs : Sub (R 0 q) r) (hn : Pick (V 0 ++ n0) news)
    (hb : ∀ k, k ≤ N → Inv k → RunC P (Exit.then (Round n ds W C N Inv (fun k => R k q) (fun k => V k ++ n0) k) Q) n body (R k q) ds W (C k) (V k ++ n0)) : RunC P Q n (.loop body) r ds W chg news := by
  have key : ∀ (m k : Nat), N - k < m → k ≤ N → Inv k → ∀ a w, St n (R k q) ds W (C k) (V k ++ n0) a w → Code.rounds P body Q m a w := by
    intro m
    induction m with
    | zero => intro k h; omega
    | succ m ih =>
      intro k hk hN hi a w s
      rw [rounds_succ]
      refine wp_mono (hb k hN hi a w s) ?_
      rintro e a2 w2 hq
      cases e with
      | normal =>
        obtain ⟨k', h1, h2, h3, s2⟩ := hq
        exact ih k' (by omega) h2 h3 a2 w2 s2
      | exit id => exact hq
      | goto l => exact hq
      | ret => exact hq
      | panic c => exact hq
      | outgrown => exact hq
  intro a w s
  subst hc
  exact wp_loop_rounds _ (key _ 0 (Nat.lt_succ_self _) (Nat.zero_le _) h0 a w (s.pick hs hn))
theorem RunE.round {C : Nat → Blks} {N : Nat} {Inv : Nat → Prop} {R : Nat → Regs} {Nw : Nat → Blks} {k : Nat} (hN : k + 1 ≤ N) (hi : Inv (k + 1)) (hc : chg = C (k + 1)) (hs : Sub (R (k + 1)) r) (hn : Pick (Nw (k + 1)) news) :
    RunE (Exit.then (Round n ds W C N Inv R Nw k) Q) n .normal r ds W chg news := fun _ _ s => ⟨k + 1, Nat.lt_succ_self _, hN, hi, by subst hc; exact s.pick hs hn⟩

theorem RunC.scope {c : Code} (h : RunC P (Exit.noGoto Q) n c r ds W chg news) : RunC P Q n (.scope c) r ds W chg news := fun a w s => wp_scope_straight (h a w s)
theorem RunE.scope_normal (h : RunE Q n .normal r ds W chg news) : RunE (Exit.noGoto Q) n .normal r ds W chg news := fun a w s => h a w s
theorem RunE.scope_ret (h : RunE Q n .ret r ds W chg news) : RunE (Exit.noGoto Q) n .ret r ds W chg news := fun a w s => h a w s
theorem RunE.scope_exit {id : Nat} (h : RunE Q n (.exit id) r ds W chg news) : RunE (Exit.noGoto Q) n (.exit id) r ds W chg news := fun a w s => h a w s
theorem RunE.scope_panic {c : List PanicEntry} (h : RunE Q n (.panic c) r ds W chg news) : RunE (Exit.noGoto Q) n (.panic c) r ds W chg news := fun a w s => h a w s

/-- An operation without a result that is passed over. -/
theorem RunL.no_none {o : Oper} (hg : guardB ops r o.guard = some false) (hd : o.dst = none) (h : RunL P ops Q n rest r ds W chg news) : RunL P ops Q n (o :: rest) r ds W chg news := fun a w s =>
  wpList_skip (guardB_spec s.agree hg) (by rw [hd]; exact h _ _ s)

/-! ### Slices that came in -/
/-- A slice whose elements, of sz cells each, are these. -/
structure Sl (W : World) (p : Option Addr) (b o sz : Nat) (xs : List (List Value)) : Prop where
  at' : xs ≠ [] → p = some ⟨b, o, none⟩
  len : ∀ x ∈ xs, x.length = sz
  cell : ∀ i (h : i < xs.length) j, j < sz → W.cell? ⟨b, o + i * sz + j, none⟩ = xs[i][j]?
theorem Sl.ptr {p : Option Addr} {b o sz : Nat} {xs : List (List Value)} (h : Sl W p b o sz xs) {i : Nat} (hi : i < xs.length) : p = some ⟨b, o, none⟩ := h.at' (by rintro rfl; simp at hi)
theorem Sl.lt {p : Option Addr} {b o sz : Nat} {xs : List (List Value)} (h : Sl W p b o sz xs) (hz : 0 < sz) {i : Nat} (hi : i < xs.length) : b < W.heap.size := by
  have h1 := h.cell i hi 0 hz
  have h2 := h.len _ (List.getElem_mem hi)
  rw [List.getElem?_eq_getElem (by omega)] at h1
  exact World.block_lt_of_cell? W _ h1
theorem Sl.mono {w : World} {p : Option Addr} {b o sz : Nat} {xs : List (List Value)} (h : Sl W p b o sz xs) (hz : 0 < sz) (hm : Mem W chg news w) (hc : ∀ ob, (b, ob) ∉ chg) : Sl w p b o sz xs :=
  ⟨h.at', h.len, fun i hi j hj => by rw [hm.cell (p := ⟨b, _, none⟩) (h.lt hz hi) hc]; exact h.cell i hi j hj⟩
theorem Sl.load {w : World} {T : TypeId} {p : Option Addr} {b o sz : Nat} {xs : List (List Value)} (h : Sl W p b o sz xs) (hz : 0 < sz) (hm : Mem W chg news w) (hc : ∀ ob, (b, ob) ∉ chg) (hT : tyB P T = some (true, sz)) {i : Nat} (hi : i < xs.length) :
    (loadVar T ⟨b, o + i * sz, none⟩).run P w = .ok (.agg xs[i].toArray) w := by
  have hl := h.len _ (List.getElem_mem hi)
  refine run_loadVar_agg (by rw [hl]; exact hT) (fun j hj => ?_)
  rw [add_plain, hm.cell (p := ⟨b, _, none⟩) (h.lt hz hi) hc, h.cell i hi j (by omega)]
  simp [hj]
theorem Sl.loadM {α : Type} {f : α → List Value} {w : World} {T : TypeId} {p : Option Addr} {b o sz : Nat} {l : List α} (h : Sl W p b o sz (l.map f)) (hz : 0 < sz) (hm : Mem W chg news w) (hc : ∀ ob, (b, ob) ∉ chg) (hT : tyB P T = some (true, sz)) {i : Nat} (hi : i < l.length) :
    (loadVar T ⟨b, o + (i : Int).toNat * sz, none⟩).run P w = .ok (.agg (f l[i]).toArray) w := by
  have := h.load hz hm hc hT (i := i) (by simpa using hi)
  simpa using this
theorem Sl.loadX {α : Type} {f : α → List Value} {w : World} {T : TypeId} {p : Option Addr} {b o sz : Nat} {l : List α} (h : Sl W p b o sz (l.map f)) (hz : 0 < sz) (hm : Mem W chg news w) (hc : ∀ ob, (b, ob) ∉ chg) (hT : tyB P T = some (true, sz)) {i : Nat} (hi : i < l.length) {x : α} (hx : l[i] = x) :
    (loadVar T ⟨b, o + (i : Int).toNat * sz, none⟩).run P w = .ok (.agg (f x).toArray) w := hx ▸ h.loadM hz hm hc hT hi
theorem Sl.cellX {α : Type} {f : α → List Value} {w : World} {T : TypeId} {p : Option Addr} {b o sz s1 : Nat} {l : List α} (h : Sl W p b o sz (l.map f)) (hm : Mem W chg news w) (hc : ∀ ob, (b, ob) ∉ chg) (hT : tyB P T = some (false, s1)) {i : Nat} (hi : i < l.length) {x : α} (hx : l[i] = x) {j : Nat} (hj : j < sz) {v : Value} (hv : nth (f x) j = some v) :
    (loadVar T ⟨b, o + (i : Int).toNat * sz + j, none⟩).run P w = .ok v w := by
  subst hx
  have hi' : i < (l.map f).length := by simpa using hi
  refine run_loadVar_one hT ?_
  have := h.cell i hi' j hj
  rw [hm.cell (p := ⟨b, _, none⟩) (h.lt (by omega) hi') hc, ← hv, nth_eq]
  simpa using this
theorem Sl.loadM1 {α : Type} {f : α → List Value} {w : World} {T : TypeId} {p : Option Addr} {b o sz : Nat} {l : List α} (h : Sl W p b o sz (l.map f)) (hz : 0 < sz) (hm : Mem W chg news w) (hc : ∀ ob, (b, ob) ∉ chg) (hT : tyB P T = some (false, sz)) {i : Nat} (hi : i < l.length) {v : Value} (hv : (f l[i])[0]? = some v) :
    (loadVar T ⟨b, o + (i : Int).toNat * sz, none⟩).run P w = .ok v w := by
  have hi' : i < (l.map f).length := by simpa using hi
  refine run_loadVar_one hT ?_
  have := h.cell i hi' 0 hz
  rw [hm.cell (p := ⟨b, _, none⟩) (h.lt hz hi') hc, ← hv]
  simpa using this
theorem Sl.ptrM {α : Type} {f : α → List Value} {p : Option Addr} {b o sz : Nat} {l : List α} (h : Sl W p b o sz (l.map f)) {i : Nat} (hi : i < l.length) : p = some ⟨b, o, none⟩ := h.ptr (i := i) (by simpa using hi)
/-- A slice of one element, or of more, written out. -/
theorem Sl.one {w : World} {b : Nat} {T : TypeId} {cs : List Value} {fr : Nat × Nat} {sz : Nat} (h : w.heap[b]? = some (.cells cs.toArray T fr)) (hl : cs.length = sz) : Sl w (some ⟨b, 0, none⟩) b 0 sz [cs] :=
  ⟨fun _ => rfl, by simpa using hl, fun i hi j _ => by
    obtain rfl : i = 0 := by simpa using hi
    rw [cell_of_cells h]; simp⟩
theorem Sl.ne {w : World} {p : Option Addr} {b o sz b' : Nat} {ob : Obj} {xs : List (List Value)} (h : Sl W p b o sz xs) (hz : 0 < sz) (hm : Mem W [] news w) (hn : (b', ob) ∈ news) (hx : xs ≠ []) : b ≠ b' := by
  have h1 := h.lt hz (i := 0) (List.length_pos_iff.2 hx)
  have h2 := (hm.newd _ _ hn).1
  omega
theorem Sl.row1 {w : World} {b : Nat} {T : TypeId} {cs : List Value} {fr : Nat × Nat} (h : w.heap[b]? = some (.cells cs.toArray T fr)) : Sl w (some ⟨b, 0, none⟩) b 0 1 (cs.map fun v => [v]) :=
  ⟨fun _ => rfl, by simp, fun i hi j hj => by
    obtain rfl : j = 0 := by omega
    rw [cell_of_cells h]; simp⟩
theorem Sl.emp {w : World} {b o sz : Nat} : Sl w none b o sz [] := ⟨fun h => absurd rfl h, by simp, fun i hi => by simp at hi⟩
theorem Sl.load1 {w : World} {T : TypeId} {p : Option Addr} {b o sz : Nat} {xs : List (List Value)} (h : Sl W p b o sz xs) (hz : 0 < sz) (hm : Mem W chg news w) (hc : ∀ ob, (b, ob) ∉ chg) (hT : tyB P T = some (false, sz)) {i : Nat} (hi : i < xs.length) {v : Value} (hv : xs[i][0]? = some v) :
    (loadVar T ⟨b, o + i * sz, none⟩).run P w = .ok v w := by
  refine run_loadVar_one hT ?_
  have := h.cell i hi 0 hz
  rw [hm.cell (p := ⟨b, _, none⟩) (h.lt hz hi) hc, ← hv, ← this]
  rfl
theorem Val.indexAddr_slp {x y : Operand} {T e : TypeId} {sz b o len cap : Nat} {p : Option Addr} {k : IntKind} {i : Int} (hx : rev r x = some (.slice p len cap)) (hy : rev r y = some (.int k i)) (hT : slB P T = some (e, sz))
    (h0 : 0 ≤ i) (h1 : i < len) (hp : p = some ⟨b, o, none⟩) : Val P r W chg news { dst, op := .indexAddr T x y, type := ty, pos, after, guard := gd } (.pointer (some ⟨b, o + i.toNat * sz, none⟩)) := by
  subst hp; exact Val.indexAddr_sl hx hy hT h0 h1

theorem Mem.old_at {w : World} {b : Nat} {o : Obj} (h : Mem W chg news w) (hb : W.heap[b]? = some o) (hc : ∀ ob, (b, ob) ∉ chg) : w.heap[b]? = some o := by
  rw [h.old b (lt_of_block hb) hc]; exact hb
theorem Val.oload_agg {x : Operand} {T T0 : TypeId} {b o sz : Nat} {cs vs : List Value} {fr : Nat × Nat} (hx : rev r x = some (.pointer (some ⟨b, o, none⟩))) (hb : W.heap[b]? = some (.cells cs.toArray T0 fr)) (hc : ∀ ob, (b, ob) ∉ chg)
    (hT : tyB P T = some (true, sz)) (hv : grab cs o sz = some vs) : Val P r W chg news { dst, op := .load T x, type := ty, pos, after, guard := gd } (.agg vs.toArray) :=
  Val.load_gen hx (fun w hm => by
    obtain ⟨h1, h2⟩ := grab_spec hv
    have h3 := hm.old_at hb hc
    exact run_loadVar_agg (by rw [h1]; exact hT) (fun j hj => by rw [add_plain, cell_of_cells h3, h2 j (by omega)]; simp [hj]))
theorem Val.oload_one {x : Operand} {T T0 : TypeId} {b o sz : Nat} {cs : List Value} {v : Value} {fr : Nat × Nat} (hx : rev r x = some (.pointer (some ⟨b, o, none⟩))) (hb : W.heap[b]? = some (.cells cs.toArray T0 fr)) (hc : ∀ ob, (b, ob) ∉ chg)
    (hT : tyB P T = some (false, sz)) (hv : nth cs o = some v) : Val P r W chg news { dst, op := .load T x, type := ty, pos, after, guard := gd } v :=
  Val.load_gen hx (fun w hm => run_loadVar_one hT (by rw [cell_of_cells (hm.old_at hb hc), ← nth_eq]; exact hv))

/-! ### Functions that defer one call, of a function that recovers -/
/-- What the deferred function does, by what its caller is at: it returns; it panics with what 'mis' tells. -/
structure Catches (P : Program) (f : FuncId) (T : TypeId) (mis : Int → Value) : Prop where
  calm : ∀ b w, CallsD P f #[.pointer (some ⟨b, 0, none⟩)] .returning w fun e u w' => (∃ v, e = .returned v) ∧ u = .returning ∧ Mem w [] [] w'
  wild : ∀ b k x w, w.heap[b]? = some (.cells #[x] T (0, 0)) → CallsD P f #[.pointer (some ⟨b, 0, none⟩)] (.panicking [{ v := mis k, recovered := false }]) w fun e u w' =>
    (∃ v, e = .returned v) ∧ u = .panicking [{ v := mis k, recovered := true }] ∧ Mem w [(b, .cells #[.int .i64 k] T (0, 0))] [] w'
theorem calls_start_defers {f : FuncId} {fn : Func} {c : Code} {vs : List Value} {R : Ending → World → Prop} (hf : P.funcs[f]? = some fn) (hb : fn.body = some c) (hn : Nat.ble vs.length fn.ntmps = true)
    (h : RunC P (bodyPostD P fn R) fn.ntmps c (args0 0 vs) [] W [] []) : Calls P f vs.toArray W R :=
  calls_of_wp_defers hf hb (h _ _ (start_st (Nat.le_of_ble_eq_true hn) (Mem.refl W)))

theorem leaves_calm {fn : Func} {f : FuncId} {T : TypeId} {mis : Int → Value} {v v0 : Value} {b : Nat} (hc : Catches P f T mis) (he : Enters P f) (hv : ResVs P r news fn v) (hv0 : v = v0) {a : Act} {w : World} (s : St n r [{ target := .fn (.func f) #[], args := #[.pointer (some ⟨b, 0, none⟩)] }] W [] news a w) :
    Leaves P fn a.tmps (Pure v0 W) a.defers .returning w := by
  rw [s.defers]
  refine leaves_cons (f := f) (args := #[.pointer (some ⟨b, 0, none⟩)]) (by simp) (by simp [invoke]; exact he _ _) ?_
  refine (hc.calm b w).mono ?_
  rintro e u w' ⟨⟨x, rfl⟩, rfl, hm⟩
  have hm2 := s.mem.pass hm
  exact ⟨v, hv.run s.agree (fun _ _ h => hm2.at (by simpa using h)), by rw [hv0], hm2.drop⟩
theorem RunE.retD {fn : Func} {f : FuncId} {T : TypeId} {mis : Int → Value} {v v0 : Value} {b : Nat} (hc : Catches P f T mis) (he : Enters P f) (hv : ResVs P r news fn v) (hv0 : v = v0) :
    RunE (bodyPostD P fn (Pure v0 W)) n .ret r [{ target := .fn (.func f) #[], args := #[.pointer (some ⟨b, 0, none⟩)] }] W [] news := fun _ _ s => leaves_calm hc he hv hv0 s
theorem RunE.panD {fn : Func} {f : FuncId} {T : TypeId} {mis : Int → Value} {v v0 x : Value} {b : Nat} {k : Int} {news' : Blks} (hc : Catches P f T mis) (he : Enters P f) (hu : Upd news b (.cells #[x] T (0, 0)) (.cells #[.int .i64 k] T (0, 0)) news') (hv : ResVs P r news' fn v) (hv0 : v = v0) :
    RunE (bodyPostD P fn (Pure v0 W)) n (.panic [{ v := mis k, recovered := false }]) r [{ target := .fn (.func f) #[], args := #[.pointer (some ⟨b, 0, none⟩)] }] W [] news := fun a w s => by
  show Leaves P fn a.tmps (Pure v0 W) a.defers _ w
  rw [s.defers]
  refine leaves_cons (f := f) (args := #[.pointer (some ⟨b, 0, none⟩)]) (by simp) (by simp [invoke]; exact he _ _) ?_
  refine (hc.wild b k x w (s.mem.newd _ _ hu.mem).2).mono ?_
  rintro e u w' ⟨⟨y, rfl⟩, rfl, hm⟩
  have hm2 := s.mem.turn_new hu hm
  exact ⟨v, hv.run s.agree (fun _ _ h => hm2.at (by simpa using h)), by rw [hv0], hm2.drop⟩

/-! ### Calls that may panic, and make or turn blocks -/
/-- It panics with a value; or hands back a value that holds new blocks' addresses. -/
def TryN {α : Type} (mis : Int → Value) (x : Except Int α) (v : α → Nat → Value) (nw : α → Nat → Blks) (W : World) (e : Ending) (w : World) : Prop :=
  match x with
  | .error k => e = .panicked [{ v := mis k, recovered := false }] ∧ Mem W [] [] w
  | .ok a => ∃ b, e = .returned (v a b) ∧ Mem W [] (nw a b) w
/-- It panics with a value, and one block is whatever it is; or it hands back a value, and the block is what is said. -/
def TryU {α : Type} (mis : Int → Value) (x : Except Int α) (v : Value) (b : Nat) (ob : α → Obj) (W : World) (e : Ending) (w : World) : Prop :=
  match x with
  | .error k => e = .panicked [{ v := mis k, recovered := false }] ∧ ∃ o, Mem W [(b, o)] [] w
  | .ok a => e = .returned v ∧ Mem W [(b, ob a)] [] w

theorem RunL.callTN {α : Type} {o : Oper} {f : FuncId} {args : Array Value} {mis : Int → Value} {x : Except Int α} {v : α → Nat → Value} {nw : α → Nat → Blks} (hi : IsCall P r o f args) (hg : guardB ops r o.guard = some true) (hd : o.dst = some d) (hn : Nat.ble (d + 1) n = true)
    (hc : ∀ w, Mem W chg news w → Calls P f args w (TryN mis x v nw w)) (herr : ∀ k, x = .error k → RunE Q n (.panic [{ v := mis k, recovered := false }]) r ds W chg news)
    (hok : ∀ a, x = .ok a → ∀ b, RunL P ops Q n rest ((d, v a b) :: r) ds W chg (nw a b ++ news)) : RunL P ops Q n (o :: rest) r ds W chg news :=
  RunL.call hg hd (fun a w s => hi.runs a w s.agree) hc (fun a w e w' s hR => by
    unfold TryN at hR
    cases x with
    | ok y =>
      obtain ⟨b, rfl, hm⟩ := hR
      have s2 := s.put (Nat.le_of_ble_eq_true hn) (v y b)
      exact hok y rfl b _ _ ⟨s2.size, s2.agree, s2.defers, s.mem.trans hm⟩
    | error k =>
      obtain ⟨rfl, hm⟩ := hR
      exact herr k rfl a w' ⟨s.size, s.agree, s.defers, s.mem.pass hm⟩)
theorem RunL.callTU {α : Type} {o : Oper} {f : FuncId} {args : Array Value} {mis : Int → Value} {x : Except Int α} {v : Value} {b : Nat} {ob : α → Obj} {o0 : Obj} {nf : Obj → Blks} (hi : IsCall P r o f args) (hg : guardB ops r o.guard = some true) (hd : o.dst = some d) (hn : Nat.ble (d + 1) n = true)
    (hu : ∀ o', Upd news b o0 o' (nf o')) (hc : ∀ w, Mem W chg news w → Calls P f args w (TryU mis x v b ob w)) (herr : ∀ k, x = .error k → ∀ o', RunE Q n (.panic [{ v := mis k, recovered := false }]) r ds W chg (nf o'))
    (hok : ∀ a, x = .ok a → RunL P ops Q n rest ((d, v) :: r) ds W chg (nf (ob a))) : RunL P ops Q n (o :: rest) r ds W chg news :=
  RunL.call hg hd (fun a w s => hi.runs a w s.agree) hc (fun a w e w' s hR => by
    unfold TryU at hR
    cases x with
    | ok y =>
      obtain ⟨rfl, hm⟩ := hR
      have s2 := s.put (Nat.le_of_ble_eq_true hn) v
      exact hok y rfl _ _ ⟨s2.size, s2.agree, s2.defers, s.mem.turn_new (hu _) hm⟩
    | error k =>
      obtain ⟨rfl, o', hm⟩ := hR
      exact herr k rfl o' a w' ⟨s.size, s.agree, s.defers, s.mem.turn_new (hu o') hm⟩)
theorem RunE.retTN {α : Type} {fn : Func} {mis : Int → Value} {x : Except Int α} {v : α → Nat → Value} {nw : α → Nat → Blks} {u : Value} {a : α} (b : Nat) (hv : ResVs P r news fn u) (he : x = .ok a) (hu : u = v a b) (hp : Pick (nw a b) news) :
    RunE (bodyPost P fn (TryN mis x v nw W)) n .ret r [] W [] news :=
  RunE.ret (chg := []) hv (fun _ hm => by rw [he]; exact ⟨b, by rw [hu], hm.pick hp⟩)
theorem RunE.panicTN {α : Type} {fn : Func} {mis : Int → Value} {x : Except Int α} {v : α → Nat → Value} {nw : α → Nat → Blks} {k : Int} (he : x = .error k) :
    RunE (bodyPost P fn (TryN mis x v nw W)) n (.panic [{ v := mis k, recovered := false }]) r [] W [] news := fun _ w s => ⟨s.defers, by rw [he]; exact ⟨rfl, s.mem.drop⟩⟩
theorem RunE.retTU {α : Type} {fn : Func} {mis : Int → Value} {x : Except Int α} {v : Value} {b : Nat} {ob : α → Obj} {u : Value} {a : α} {o : Obj} (hv : ResVs P r ([(b, o)] ++ news) fn u) (he : x = .ok a) (hu : u = v) (ho : o = ob a) :
    RunE (bodyPost P fn (TryU mis x v b ob W)) n .ret r [] W [(b, o)] news :=
  RunE.ret hv (fun _ hm => by rw [he]; exact ⟨by rw [hu], ho ▸ hm.drop⟩)
theorem RunE.finTU {α : Type} {fn : Func} {mis : Int → Value} {x : Except Int α} {v : Value} {b : Nat} {ob : α → Obj} {u : Value} {a : α} {o : Obj} (hv : ResVs P r ([(b, o)] ++ news) fn u) (he : x = .ok a) (hu : u = v) (ho : o = ob a) :
    RunE (bodyPost P fn (TryU mis x v b ob W)) n .normal r [] W [(b, o)] news :=
  RunE.fin hv (fun _ hm => by rw [he]; exact ⟨by rw [hu], ho ▸ hm.drop⟩)
theorem RunE.panicTU {α : Type} {fn : Func} {mis : Int → Value} {x : Except Int α} {v : Value} {b : Nat} {ob : α → Obj} {k : Int} {o : Obj} (he : x = .error k) :
    RunE (bodyPost P fn (TryU mis x v b ob W)) n (.panic [{ v := mis k, recovered := false }]) r [] W [(b, o)] news := fun _ w s => ⟨s.defers, by rw [he]; exact ⟨rfl, o, s.mem.drop⟩⟩

/-! ### A region that draws its order, and may panic, in a function that defers -/
def PanQ (Q : Exit → Act → World → Prop) (n : Nat) (r : Regs) (ds : List Deferred) (W : World) (chg news : Blks) : Exit → Act → World → Prop
  | .panic c, a, w => St n r ds W chg news a w ∧ RunE Q n (.panic c) r ds W chg news
  | e, a, w => Q e a w
theorem PanQ.imp : ∀ (e : Exit) (a : Act) (w : World), PanQ Q n r ds W chg news e a w → Q e a w := fun e a w h => by
  cases e <;> first | exact h | exact (h : _ ∧ _).2 a w (h : _ ∧ _).1
theorem PanQ.back {v : Value} (hd : rget r d = none) : ∀ (c : List PanicEntry) (a : Act) (w : World), PanQ Q n r ds W chg news (.panic c) (a.put (some d) v) w → PanQ Q n r ds W chg news (.panic c) a w := fun c a w h => by
  obtain ⟨s, h2⟩ := (h : _ ∧ _)
  refine ⟨⟨by have := s.size; simpa [Act.put] using this, fun t u ht => ?_, s.defers, s.mem⟩, h2⟩
  have hne : d ≠ t := by rintro rfl; rw [hd] at ht; cases ht
  have := s.agree t u ht
  simpa [Act.put, Array.getElem?_setIfInBounds_ne hne] using this
theorem RunC.drawP {id : Nat} {l : List Oper} {news0 : Blks} (k : Nat) (hm : P.follows .mixedOrders = true) (_hp : Pick news0 news) (h : RunA P l.toArray (PanQ Q n r ds W chg news0) k (fun c => c = chg) news0 n l.toArray.size (Array.replicate l.toArray.size false) r ds W chg news) : RunC P Q n (.region id l.toArray true) r ds W chg news := fun a _ s =>
  Code.wp_mono PanQ.imp (wp_region_any hm (wpAny_of_T _ _ _ _ (h a _ s.drew Closed.start)))
theorem RunE.panQ_normal {r0 : Regs} {news0 : Blks} (h : RunE Q n .normal r ds W chg news) : RunE (PanQ Q n r0 ds W chg news0) n .normal r ds W chg news := h
theorem RunE.panQ_panic {r0 : Regs} {news0 : Blks} {c : List PanicEntry} (hs : Sub r0 r) (hn : Pick news0 news) (h : RunE Q n (.panic c) r0 ds W chg news0) : RunE (PanQ Q n r0 ds W chg news0) n (.panic c) r ds W chg news := fun _ _ s => ⟨s.pick hs hn, h⟩

theorem Agree.nil (a : Act) : Agree a [] := fun _ _ h => by cases h
theorem Agree.consA {a : Act} {t : Nat} {v : Value} (h : a.tmps[t]? = some v) (ha : Agree a r) : Agree a ((t, v) :: r) := fun t' v' h' => by
  simp only [rget] at h'
  split at h'
  · rename_i he; have := Nat.eq_of_beq_eq_true he; subst this; cases h'; exact h
  · exact ha t' v' h'

theorem RunC.at {c : Code} {a : Act} {w : World} (n : Nat) (r : Regs) (W : World) (chg : Blks) (s : St n r [] W chg [] a w) (h : RunC P Q n c r [] W chg []) : c.wp P Q a w := h a w s

/-! ### Interface values -/
theorem run_equal_iface_nil {w : World} {T t : TypeId} {v : Value} {ms : Array (String × TypeId)} (hT : P.underlying T = some (.interface ms)) : (Op.equal T (.iface t v) .nilIface).run P w = .ok false w := by
  have h : ∀ d, (Op.equalIn (d + 1) T (.iface t v) .nilIface).run P w = .ok false w := fun d => by simp [Op.equalIn, run_underlying hT]
  exact h 9999
theorem run_equal_nil_nil {w : World} {T : TypeId} {ms : Array (String × TypeId)} (hT : P.underlying T = some (.interface ms)) : (Op.equal T .nilIface .nilIface).run P w = .ok true w := by
  have h : ∀ d, (Op.equalIn (d + 1) T .nilIface .nilIface).run P w = .ok true w := fun d => by simp [Op.equalIn, run_underlying hT]
  exact h 9999
theorem Val.neq_iface_nil {x : Operand} {T yt t : TypeId} {v : Value} {ms : Array (String × TypeId)} (hx : rev r x = some (.iface t v)) (hT : P.underlying T = some (.interface ms)) :
    Val P r W chg news { dst, op := .binOp .neq T x (.const .nilIface) yt, type := ty, pos, after, guard := gd } (.bool true) :=
  ⟨fun a w ha _ => by
    have h := run_equal_iface_nil (P := P) (w := w) (t := t) (v := v) hT
    simp [execOp, ha.eval hx, BigFrame.eval_const, eqGuard, binOp, h]⟩
theorem Val.neq_nil_nil {x : Operand} {T yt : TypeId} {ms : Array (String × TypeId)} (hx : rev r x = some .nilIface) (hT : P.underlying T = some (.interface ms)) :
    Val P r W chg news { dst, op := .binOp .neq T x (.const .nilIface) yt, type := ty, pos, after, guard := gd } (.bool false) :=
  ⟨fun a w ha _ => by
    have h := run_equal_nil_nil (P := P) (w := w) hT
    simp [execOp, ha.eval hx, BigFrame.eval_const, eqGuard, binOp, h]⟩
theorem Val.assert_ok {x : Operand} {T t : TypeId} {v : Value} (hx : rev r x = some (.iface t v)) (hi : (P.underlying t).any (fun t => match t with | .interface _ => false | _ => true) = true) :
    Val P r W chg news { dst, op := .typeAssert x T t true, type := ty, pos, after, guard := gd } (.tuple #[v, .bool true]) :=
  ⟨fun a w ha _ => by
    cases hu : P.underlying t with
    | none => simp [hu] at hi
    | some d =>
      simp [hu] at hi
      cases d <;> simp at hi <;> simp [execOp, ha.eval hx, Instr.typeAssert, run_underlying hu]⟩
end
end Go.Eng
