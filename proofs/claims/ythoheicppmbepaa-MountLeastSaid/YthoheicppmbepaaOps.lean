/- The engine: the rules of operations. No program is in sight: what a rule wants of the tables of types is a premise. -/
import Derived.Test.YthoheicppmbepaaCore
namespace Go.Eng
open Go Go.RowKit

/-! ## What is asked of the tables -/
def isAggD : TypeDesc → Bool
  | .struct _ | .array .. => true
  | _ => false
/-- Is it a struct or an array; how many cells. -/
def tyB (P : Program) (T : TypeId) : Option (Bool × Nat) :=
  match P.info? T, P.underlying T with
  | some i, some d => some (isAggD d, i.size)
  | _, _ => none
/-- The cells of the zero value. -/
def zeroB (P : Program) (T : TypeId) : Option (List Value) := ((P.info? T).bind (·.zero)).map (·.cells.toList)
/-- Where a field lies (of a struct whose field has cells). -/
def fieldB (P : Program) (T : TypeId) (i : Nat) : Option Nat :=
  match P.underlying T with
  | some (.struct fs) => match fs[i]? with
    | some f => match P.info? f.type with
      | some j => if j.size = 0 then none else some f.offset
      | none => none
    | none => none
  | _ => none
/-- Where all fields lie, and how many cells each has. -/
def placesB (P : Program) (T : TypeId) : Option (List (Nat × Nat)) :=
  match P.underlying T with
  | some (.struct fs) => fs.toList.mapM fun f => (P.info? f.type).map fun j => (f.offset, j.size)
  | some (.array n e) => (P.info? e).map fun j => (List.range n).map fun i => (i * j.size, j.size)
  | _ => none
/-- An array: how many elements, and of how many cells each. -/
def arrB (P : Program) (T : TypeId) : Option (Nat × Nat) :=
  match P.underlying T with
  | some (.array n e) => (P.info? e).map fun j => (n, j.size)
  | _ => none
/-- A slice: its elements' type, and of how many cells each is. -/
def slB (P : Program) (T : TypeId) : Option (TypeId × Nat) :=
  match P.underlying T with
  | some (.slice e) => (P.info? e).map fun j => (e, j.size)
  | _ => none

/-! ## Lists of cells -/
def grabN : List Value → Nat → Option (List Value)
  | _, 0 => some []
  | [], _ + 1 => none
  | c :: cs, n + 1 => match grabN cs n with
    | some l => some (c :: l)
    | none => none
def grab : List Value → Nat → Nat → Option (List Value)
  | cs, 0, n => grabN cs n
  | [], _ + 1, _ => none
  | _ :: cs, o + 1, n => grab cs o n
def nth : List Value → Nat → Option Value
  | [], _ => none
  | c :: _, 0 => some c
  | _ :: cs, o + 1 => nth cs o
def isOne : Value → Bool
  | .agg _ | .tuple _ => false
  | _ => true
def pasteN : List Value → List Value → Option (List Value)
  | cs, [] => some cs
  | [], _ :: _ => none
  | _ :: cs, v :: vs => match isOne v with
    | true => match pasteN cs vs with
      | some l => some (v :: l)
      | none => none
    | false => none
def paste : List Value → Nat → List Value → Option (List Value)
  | cs, 0, vs => pasteN cs vs
  | [], _ + 1, _ => none
  | c :: cs, o + 1, vs => match paste cs o vs with
    | some l => some (c :: l)
    | none => none
def cellsL : Value → List Value
  | .agg cs => cs.toList
  | v => [v]

theorem nth_eq : ∀ (cs : List Value) (o : Nat), nth cs o = cs[o]?
  | [], _ => by simp [nth]
  | c :: cs, 0 => by simp [nth]
  | c :: cs, o + 1 => by simp [nth, nth_eq cs o]
theorem grabN_spec : ∀ {cs : List Value} {n : Nat} {l : List Value}, grabN cs n = some l → l.length = n ∧ ∀ i, i < n → cs[i]? = l[i]?
  | cs, 0, l, h => by simp [grabN] at h; subst h; simp
  | [], n + 1, l, h => by simp [grabN] at h
  | c :: cs, n + 1, l, h => by
    simp only [grabN] at h
    split at h
    · rename_i l' hl'
      cases h
      have := grabN_spec hl'
      refine ⟨by simp [this.1], fun i hi => ?_⟩
      cases i with
      | zero => simp
      | succ i => simpa using this.2 i (by omega)
    · cases h
theorem grab_spec : ∀ {cs : List Value} {o n : Nat} {l : List Value}, grab cs o n = some l → l.length = n ∧ ∀ i, i < n → cs[o + i]? = l[i]?
  | cs, 0, n, l, h => by
    have h' : grabN cs n = some l := by cases cs <;> simpa [grab] using h
    simpa using grabN_spec h'
  | [], o + 1, n, l, h => by simp [grab] at h
  | c :: cs, o + 1, n, l, h => by
    have := grab_spec (cs := cs) (o := o) (n := n) (l := l) h
    refine ⟨this.1, fun i hi => ?_⟩
    rw [show o + 1 + i = (o + i) + 1 by omega]
    simpa using this.2 i hi

/-! ## Loads -/
theorem run_loadCellsFrom {P : Program} {w : World} {a : Addr} : ∀ (cs : List Value) (i : Nat) (acc : Array Value), (∀ j (h : j < cs.length), w.cell? (a.add (i + j)) = some cs[j]) →
    (loadCellsFrom a i cs.length acc).run P w = .ok (acc ++ cs.toArray) w
  | [], i, acc, _ => by simp [loadCellsFrom]
  | c :: cs, i, acc, h => by
    have h0 := h 0 (by simp)
    simp only [Nat.add_zero, List.getElem_cons_zero] at h0
    have ih := run_loadCellsFrom (P := P) (w := w) (a := a) cs (i + 1) (acc.push c) (fun j hj => by
      have := h (j + 1) (by simp; omega)
      rw [show i + 1 + j = i + (j + 1) by omega]
      simpa using this)
    simp only [List.length_cons, loadCellsFrom, load]
    show ((Sem.load Mode.plain (a.add i) Sem.pure).bind fun v => loadCellsFrom a (i + 1) cs.length (acc.push v)).run P w = _
    simp only [Sem.bind, Sem.run, h0]
    rw [ih]
    simp

theorem run_loadVar_agg {P : Program} {w : World} {T : TypeId} {a : Addr} {cs : List Value} (hT : tyB P T = some (true, cs.length)) (h : ∀ j (hj : j < cs.length), w.cell? (a.add j) = some cs[j]) :
    (loadVar T a).run P w = .ok (.agg cs.toArray) w := by
  unfold tyB at hT
  split at hT
  · rename_i i d hi hd
    simp only [Option.some.injEq, Prod.mk.injEq] at hT
    have h2 := run_loadCellsFrom (P := P) (w := w) (a := a) cs 0 #[] (by simpa using h)
    have hagg : (isAgg T).run P w = .ok true w := by
      unfold isAgg
      cases d <;> simp_all [isAggD, run_underlying hd]
    simp [loadVar, hagg, sizeOf, typeInfo, hi, hT.2, loadCells, h2]
  · cases hT

theorem run_loadVar_one {P : Program} {w : World} {T : TypeId} {a : Addr} {v : Value} {sz : Nat} (hT : tyB P T = some (false, sz)) (h : w.cell? a = some v) :
    (loadVar T a).run P w = .ok v w := by
  unfold tyB at hT
  split at hT
  · rename_i i d hi hd
    simp only [Option.some.injEq, Prod.mk.injEq] at hT
    have hagg : (isAgg T).run P w = .ok false w := by
      unfold isAgg
      cases d <;> simp_all [isAggD, run_underlying hd]
    simp [loadVar, hagg, load, h, Sem.run]
  · cases hT

theorem add_plain (b off i : Nat) : (Addr.mk b off none).add i = ⟨b, off + i, none⟩ := by
  unfold Addr.add
  split
  · rename_i h; subst h; rfl
  · rfl
theorem cell_of_cells {w : World} {b : Nat} {cs : List Value} {T : TypeId} {fr : Nat × Nat} (h : w.heap[b]? = some (.cells cs.toArray T fr)) (o : Nat) : w.cell? ⟨b, o, none⟩ = cs[o]? := by simp [World.cell?, h]

/-! ## One operation -/
section
variable {P : Program} {ops : Array Oper} {Q : Exit → Act → World → Prop} {n : Nat} {r : Regs} {ds : List Deferred} {W : World} {chg news : Blks} {rest : List Oper}
variable {d : Nat} {ty : TypeId} {pos : String} {after : Array Edge} {dst : Option Tmp} {gd : Option (Nat × Bool)}

/-- An operation that hands back a value and leaves the world as it is. -/
structure Val (P : Program) (r : Regs) (W : World) (chg news : Blks) (o : Oper) (v : Value) : Prop where
  run : ∀ a w, Agree a r → Mem W chg news w → (execOp a.eval o).run P w = .ok (.value v) w
/-- An operation that makes one block, and hands back what its number decides. -/
structure New (P : Program) (r : Regs) (W : World) (chg news : Blks) (o : Oper) (v : Nat → Value) (ob : Obj) : Prop where
  run : ∀ a w, Agree a r → Mem W chg news w → (execOp a.eval o).run P w = .ok (.value (v w.heap.size)) (w.alloc ob)
/-- An operation that turns memory that is the function's own, or came in to be turned. -/
structure Sto (P : Program) (r : Regs) (W : World) (chg news : Blks) (o : Oper) (chg' news' : Blks) : Prop where
  run : ∀ a w, Agree a r → Mem W chg news w → ∃ w', (execOp a.eval o).run P w = .ok .skip w' ∧ Mem W chg' news' w'

/-- A guard that says yes, or no. -/
def guardB (ops : Array Oper) (r : Regs) : Option (Nat × Bool) → Option Bool
  | none => some true
  | some (j, want) => match (ops[j]?).bind (·.dst) with
    | some t => match rget r t with
      | some (.bool b) => some (b == want)
      | some (.tuple _) => some false
      | _ => none
    | none => none
theorem guardB_spec {a : Act} (ha : Agree a r) {o : Oper} {g : Bool} (h : guardB ops r o.guard = some g) : Region.wanted o (yielded ops a.tmps) = g := by
  unfold Region.wanted
  cases hg : o.guard with
  | none => simp [guardB, hg] at h; simp [h]
  | some jw =>
    obtain ⟨j, want⟩ := jw
    simp only [guardB, hg] at h
    split at h
    · rename_i t ht
      split at h
      · rename_i b hb
        have := ha _ _ hb
        simp [yielded, ht, this] at h ⊢
        cases b <;> cases want <;> simp_all
      · rename_i vs hb
        have := ha _ _ hb
        simp [yielded, ht, this] at h ⊢
        exact h.symm ▸ rfl
      · cases h
    · cases h

theorem wpList_yes {a : Act} {w : World} {o : Oper} (hw : Region.wanted o (yielded ops a.tmps) = true)
    (h : ∀ K : Act → World → Prop, (∀ a w, wpList P ops Q rest a w → K a w) → o.wp P a w K Q) : wpList P ops Q (o :: rest) a w :=
  wpList_step fun K hK => by rw [if_pos hw]; exact h K hK

theorem RunL.val {o : Oper} {v : Value} (hv : Val P r W chg news o v) (hg : guardB ops r o.guard = some true) (hd : o.dst = some d) (hn : Nat.ble (d + 1) n = true)
    (h : RunL P ops Q n rest ((d, v) :: r) ds W chg news) : RunL P ops Q n (o :: rest) r ds W chg news := fun a w s =>
  wpList_yes (guardB_spec s.agree hg) fun K hK => by
    unfold Oper.wp
    rw [hv.run a w s.agree s.mem, Oper.upon_value, hd]
    exact hK _ _ (h _ _ (s.put (Nat.le_of_ble_eq_true hn) v))
theorem RunL.no {o : Oper} (hg : guardB ops r o.guard = some false) (hd : o.dst = some d) (hn : Nat.ble (d + 1) n = true)
    (h : RunL P ops Q n rest ((d, undef) :: r) ds W chg news) : RunL P ops Q n (o :: rest) r ds W chg news := fun a w s =>
  wpList_skip (guardB_spec s.agree hg) (by rw [hd]; exact h _ _ (s.put (Nat.le_of_ble_eq_true hn) undef))
theorem RunL.new {o : Oper} {v : Nat → Value} {ob : Obj} (hv : New P r W chg news o v ob) (hg : guardB ops r o.guard = some true) (hd : o.dst = some d) (hn : Nat.ble (d + 1) n = true)
    (h : ∀ b, RunL P ops Q n rest ((d, v b) :: r) ds W chg ((b, ob) :: news)) : RunL P ops Q n (o :: rest) r ds W chg news := fun a w s =>
  wpList_yes (guardB_spec s.agree hg) fun K hK => by
    unfold Oper.wp
    rw [hv.run a w s.agree s.mem, Oper.upon_value, hd]
    have s2 := s.put (Nat.le_of_ble_eq_true hn) (v w.heap.size)
    exact hK _ _ (h _ _ _ ⟨s2.size, s2.agree, s2.defers, s.mem.alloc ob⟩)
theorem RunL.sto {o : Oper} {chg' news' : Blks} (hv : Sto P r W chg news o chg' news') (hg : guardB ops r o.guard = some true) (hd : o.dst = none)
    (h : RunL P ops Q n rest r ds W chg' news') : RunL P ops Q n (o :: rest) r ds W chg news := fun a w s =>
  wpList_yes (guardB_spec s.agree hg) fun K hK => by
    obtain ⟨w', h1, h2⟩ := hv.run a w s.agree s.mem
    unfold Oper.wp
    rw [h1, Oper.upon_skip, hd]
    exact hK _ _ (h _ _ ⟨s.size, s.agree, s.defers, h2⟩)

/-- What needs no world: moves, tests, and whatever the registers alone decide. -/
def pureV (r : Regs) : Op → Option Value
  | .move x => rev r x
  | .assign x => rev r x
  | .pick c x y => match rev r c with
    | some (.bool true) => rev r x
    | some (.bool false) => rev r y
    | _ => none
  | .binOp .leq _ x y _ => match rev r x, rev r y with
    | some (.int k a), some (.int k' b) => match decEq k k' with
      | isTrue _ => some (.bool (decide (a ≤ b)))
      | isFalse _ => none
    | _, _ => none
  | .binOp .lss _ x y _ => match rev r x, rev r y with
    | some (.int k a), some (.int k' b) => match decEq k k' with
      | isTrue _ => some (.bool (decide (a < b)))
      | isFalse _ => none
    | _, _ => none
  | .binOp .geq _ x y _ => match rev r x, rev r y with
    | some (.int k a), some (.int k' b) => match decEq k k' with
      | isTrue _ => some (.bool (decide (b ≤ a)))
      | isFalse _ => none
    | _, _ => none
  | .binOp .gtr _ x y _ => match rev r x, rev r y with
    | some (.int k a), some (.int k' b) => match decEq k k' with
      | isTrue _ => some (.bool (decide (b < a)))
      | isFalse _ => none
    | _, _ => none
  | .binOp .eql _ x y _ => match rev r x, rev r y with
    | some (.int k a), some (.int k' b) => match decEq k k' with
      | isTrue _ => some (.bool (decide (a = b)))
      | isFalse _ => none
    | _, _ => none
  | .binOp .neq _ x y _ => match rev r x, rev r y with
    | some (.int k a), some (.int k' b) => match decEq k k' with
      | isTrue _ => some (.bool (!decide (a = b)))
      | isFalse _ => none
    | _, _ => none
  | .unOp .not _ x => match rev r x with
    | some (.bool b) => some (.bool (!b))
    | _ => none
  | .extract x i => match rev r x with
    | some (.tuple vs) => nth vs.toList i
    | _ => none
  | .makeFunc fn first captured => match revs r first.toList, revs r captured.toList with
    | some xs, some ys => some (.func fn xs.toArray ys.toArray)
    | _, _ => none
  | .nilCheck x => match rev r x with
    | some (.pointer (some a)) => some (.pointer (some a))
    | _ => none
  | _ => none

theorem pureV_sound {o : Oper} {a : Act} {v : Value} (ha : Agree a r) (h : pureV r o.op = some v) (w : World) : (execOp a.eval o).run P w = .ok (.value v) w := by
  obtain ⟨dst, op, type, pos, after, guard⟩ := o
  simp only at h
  unfold pureV at h
  split at h
  · simp [execOp, ha.eval h]
  · simp [execOp, ha.eval h]
  · split at h
    · rename_i hc; simp [execOp, ha.eval hc, ha.eval h, asBool]
    · rename_i hc; simp [execOp, ha.eval hc, ha.eval h, asBool]
    · cases h
  all_goals try (
    split at h
    · rename_i k x k' y hx hy
      split at h
      · rename_i he _; subst he; cases h
        simp [execOp, ha.eval hx, ha.eval hy, eqGuard, binOp, Op.intCmp]
        try rfl
      · cases h
    · cases h)
  · split at h
    · rename_i b hx; cases h; simp [execOp, ha.eval hx, Op.unary]
    · cases h
  · split at h
    · rename_i vs hx; rw [nth_eq] at h; simp at h; simp [execOp, ha.eval hx, Instr.extract, h]
    · cases h
  · split at h
    · rename_i fn first captured _ _ xs ys hx hy
      cases h
      have h1 := ha.evals hx
      have h2 := ha.evals hy
      have e1 : first.map a.eval = xs.toArray := by apply Array.ext'; simp [h1]
      have e2 : captured.map a.eval = ys.toArray := by apply Array.ext'; simp [h2]
      simp [execOp, e1, e2, Instr.makeFunc]
    · cases h
  · split at h
    · rename_i a' hx; cases h; simp [execOp, ha.eval hx]
    · cases h
  · cases h

theorem Val.pure {o : Oper} {v : Value} (hv : pureV r o.op = some v) : Val P r W chg news o v := ⟨fun _ w ha _ => pureV_sound ha hv w⟩

/-! ### Numbers -/
theorem Val.add {x y : Operand} {T yt : TypeId} {k : IntKind} {p q : Int} (hx : rev r x = some (.int k p)) (hy : rev r y = some (.int k q)) (hr : k.wrap (p + q) = p + q) :
    Val P r W chg news { dst, op := .binOp .add T x y yt, type := ty, pos, after, guard := gd } (.int k (p + q)) :=
  ⟨fun a w ha hm0 => by simp [execOp, ha.eval hx, ha.eval hy, eqGuard, binOp, Op.intArith, hr]⟩
theorem Val.sub' {x y : Operand} {T yt : TypeId} {k : IntKind} {p q : Int} (hx : rev r x = some (.int k p)) (hy : rev r y = some (.int k q)) (hr : k.wrap (p - q) = p - q) :
    Val P r W chg news { dst, op := .binOp .sub T x y yt, type := ty, pos, after, guard := gd } (.int k (p - q)) :=
  ⟨fun a w ha hm0 => by simp [execOp, ha.eval hx, ha.eval hy, eqGuard, binOp, Op.intArith, hr]⟩
theorem Val.mul {x y : Operand} {T yt : TypeId} {k : IntKind} {p q : Int} (hx : rev r x = some (.int k p)) (hy : rev r y = some (.int k q)) (hr : k.wrap (p * q) = p * q) :
    Val P r W chg news { dst, op := .binOp .mul T x y yt, type := ty, pos, after, guard := gd } (.int k (p * q)) :=
  ⟨fun a w ha hm0 => by simp [execOp, ha.eval hx, ha.eval hy, eqGuard, binOp, Op.intArith, hr]⟩
theorem Val.add_wrap {x y : Operand} {T yt : TypeId} {k : IntKind} {p q : Int} (hx : rev r x = some (.int k p)) (hy : rev r y = some (.int k q)) :
    Val P r W chg news { dst, op := .binOp .add T x y yt, type := ty, pos, after, guard := gd } (.int k (k.wrap (p + q))) :=
  ⟨fun a w ha hm0 => by simp [execOp, ha.eval hx, ha.eval hy, eqGuard, binOp, Op.intArith]⟩
theorem Val.sub_wrap {x y : Operand} {T yt : TypeId} {k : IntKind} {p q : Int} (hx : rev r x = some (.int k p)) (hy : rev r y = some (.int k q)) :
    Val P r W chg news { dst, op := .binOp .sub T x y yt, type := ty, pos, after, guard := gd } (.int k (k.wrap (p - q))) :=
  ⟨fun a w ha hm0 => by simp [execOp, ha.eval hx, ha.eval hy, eqGuard, binOp, Op.intArith]⟩
theorem Val.mul_wrap {x y : Operand} {T yt : TypeId} {k : IntKind} {p q : Int} (hx : rev r x = some (.int k p)) (hy : rev r y = some (.int k q)) :
    Val P r W chg news { dst, op := .binOp .mul T x y yt, type := ty, pos, after, guard := gd } (.int k (k.wrap (p * q))) :=
  ⟨fun a w ha hm0 => by simp [execOp, ha.eval hx, ha.eval hy, eqGuard, binOp, Op.intArith]⟩
/-- A quotient of numbers that are not below 0. -/
theorem Val.quo {x y : Operand} {T yt : TypeId} {k : IntKind} {p q : Int} (hx : rev r x = some (.int k p)) (hy : rev r y = some (.int k q)) (hp : 0 ≤ p) (hq : 0 < q) (hr : k.wrap (p / q) = p / q) :
    Val P r W chg news { dst, op := .binOp .quo T x y yt, type := ty, pos, after, guard := gd } (.int k (p / q)) :=
  ⟨fun a w ha hm0 => by
    have : ¬ q = 0 := by omega
    simp [execOp, ha.eval hx, ha.eval hy, eqGuard, binOp, Op.intDiv, this, Int.tdiv_eq_ediv_of_nonneg hp, hr]⟩
theorem Val.rem {x y : Operand} {T yt : TypeId} {k : IntKind} {p q : Int} (hx : rev r x = some (.int k p)) (hy : rev r y = some (.int k q)) (hp : 0 ≤ p) (hq : 0 < q) :
    Val P r W chg news { dst, op := .binOp .rem T x y yt, type := ty, pos, after, guard := gd } (.int k (p % q)) :=
  ⟨fun a w ha hm0 => by
    have : ¬ q = 0 := by omega
    simp [execOp, ha.eval hx, ha.eval hy, eqGuard, binOp, Op.intDiv, this, Int.tmod_eq_emod_of_nonneg hp]⟩
theorem Val.neg {x : Operand} {T : TypeId} {k : IntKind} {p : Int} (hx : rev r x = some (.int k p)) (hr : k.wrap (-p) = -p) :
    Val P r W chg news { dst, op := .unOp .neg T x, type := ty, pos, after, guard := gd } (.int k (-p)) :=
  ⟨fun a w ha hm0 => by simp [execOp, ha.eval hx, Op.unary, Op.intArith, hr]⟩
theorem Val.max {x y : Operand} {ats : Array TypeId} {k k' : IntKind} {p q : Int} (hx : rev r x = some (.int k p)) (hy : rev r y = some (.int k' q)) :
    Val P r W chg news { dst, op := .call { callee := .builtin .max, args := #[x, y], argTypes := ats }, type := ty, pos, after, guard := gd } (.int k (Max.max p q)) :=
  ⟨fun a w ha hm0 => by
    rw [BigFrame.execOp_builtin, BigFrame.builtin_max]
    have e : (if q > p then q else p) = Max.max p q := by rw [Int.max_def]; split <;> split <;> omega
    simp [ha.eval hx, ha.eval hy, Builtin.max_, Builtin.max2, e]⟩
theorem Val.min {x y : Operand} {ats : Array TypeId} {k k' : IntKind} {p q : Int} (hx : rev r x = some (.int k p)) (hy : rev r y = some (.int k' q)) :
    Val P r W chg news { dst, op := .call { callee := .builtin .min, args := #[x, y], argTypes := ats }, type := ty, pos, after, guard := gd } (.int k (Min.min p q)) :=
  ⟨fun a w ha hm0 => by
    rw [BigFrame.execOp_builtin, BigFrame.builtin_min]
    have e : (if q < p then q else p) = Min.min p q := by rw [Int.min_def]; split <;> split <;> omega
    simp [ha.eval hx, ha.eval hy, Builtin.min_, Builtin.min2, e]⟩

/-! ### Addresses -/
theorem Val.fieldAddr {x : Operand} {T : TypeId} {i off b o : Nat} (hx : rev r x = some (.pointer (some ⟨b, o, none⟩))) (hf : fieldB P T i = some off) :
    Val P r W chg news { dst, op := .fieldAddr T x i, type := ty, pos, after, guard := gd } (.pointer (some ⟨b, o + off, none⟩)) :=
  ⟨fun a w ha hm0 => by
    unfold fieldB at hf
    split at hf
    · rename_i fs hfs
      split at hf
      · rename_i f hfi
        split at hf
        · rename_i j hj
          split at hf
          · cases hf
          · rename_i hne
            cases hf
            simp [execOp, ha.eval hx, Instr.fieldAt, run_underlying hfs, hfi, Instr.sureAddr, fieldPlace, sizeOf, typeInfo, hj, hne, add_plain]
        · cases hf
      · cases hf
    · cases hf⟩
/-- An element of an array in memory. -/
theorem Val.indexAddr_arr {x y : Operand} {T : TypeId} {len sz b o : Nat} {k : IntKind} {i : Int} (hx : rev r x = some (.pointer (some ⟨b, o, none⟩))) (hy : rev r y = some (.int k i)) (hT : arrB P T = some (len, sz))
    (h0 : 0 ≤ i) (h1 : i < len) :
    Val P r W chg news { dst, op := .indexAddr T x y, type := ty, pos, after, guard := gd } (.pointer (some ⟨b, o + i.toNat * sz, none⟩)) :=
  ⟨fun a w ha hm0 => by
    unfold arrB at hT
    split at hT
    · rename_i m e hu
      cases hj : P.info? e with
      | none => simp [hj] at hT
      | some j =>
        simp [hj] at hT
        obtain ⟨rfl, rfl⟩ := hT
        simp [execOp, ha.eval hx, ha.eval hy, Instr.indexAt, asIntOf, run_underlying hu, Instr.sureAddr, sizeOf, typeInfo, hj, h0, h1, add_plain]
    · cases hT⟩
/-- An element of a slice. -/
theorem Val.indexAddr_sl {x y : Operand} {T e : TypeId} {sz b o len cap : Nat} {k : IntKind} {i : Int} (hx : rev r x = some (.slice (some ⟨b, o, none⟩) len cap)) (hy : rev r y = some (.int k i)) (hT : slB P T = some (e, sz))
    (h0 : 0 ≤ i) (h1 : i < len) :
    Val P r W chg news { dst, op := .indexAddr T x y, type := ty, pos, after, guard := gd } (.pointer (some ⟨b, o + i.toNat * sz, none⟩)) :=
  ⟨fun a w ha hm0 => by
    unfold slB at hT
    split at hT
    · rename_i e' hu
      cases hj : P.info? e' with
      | none => simp [hj] at hT
      | some j =>
        simp [hj] at hT
        obtain ⟨rfl, rfl⟩ := hT
        simp [execOp, ha.eval hx, ha.eval hy, Instr.indexAt, asIntOf, run_underlying hu, sizeOf, typeInfo, hj, h0, h1, add_plain]
    · cases hT⟩

/-! ### Memory -/
theorem Val.load_agg {x : Operand} {T T0 : TypeId} {b o sz : Nat} {cs vs : List Value} {fr : Nat × Nat} (hx : rev r x = some (.pointer (some ⟨b, o, none⟩))) (hm : (b, .cells cs.toArray T0 fr) ∈ chg ++ news)
    (hT : tyB P T = some (true, sz)) (hv : grab cs o sz = some vs) :
    Val P r W chg news { dst, op := .load T x, type := ty, pos, after, guard := gd } (.agg vs.toArray) :=
  ⟨fun a w ha hm0 => by
    obtain ⟨h1, h2⟩ := grab_spec hv
    have hb := hm0.at hm
    have := run_loadVar_agg (P := P) (w := w) (T := T) (a := ⟨b, o, none⟩) (cs := vs) (by rw [h1]; exact hT) (fun j hj => by
      rw [add_plain, cell_of_cells hb, h2 j (by omega)]; simp [hj])
    simp [execOp, ha.eval hx, Instr.loadAt, Instr.sureAddr, this]⟩
theorem Val.load_one {x : Operand} {T T0 : TypeId} {b o sz : Nat} {cs : List Value} {v : Value} {fr : Nat × Nat} (hx : rev r x = some (.pointer (some ⟨b, o, none⟩))) (hm : (b, .cells cs.toArray T0 fr) ∈ chg ++ news)
    (hT : tyB P T = some (false, sz)) (hv : nth cs o = some v) :
    Val P r W chg news { dst, op := .load T x, type := ty, pos, after, guard := gd } (v) :=
  ⟨fun a w ha hm0 => by
    have := run_loadVar_one (P := P) (w := w) (T := T) (a := ⟨b, o, none⟩) hT (by rw [cell_of_cells (hm0.at hm), ← nth_eq]; exact hv)
    simp [execOp, ha.eval hx, Instr.loadAt, Instr.sureAddr, this]⟩
theorem Val.load_gen {x : Operand} {T : TypeId} {ad : Addr} {v : Value} (hx : rev r x = some (.pointer (some ad))) (hv : ∀ w, Mem W chg news w → (loadVar T ad).run P w = .ok v w) :
    Val P r W chg news { dst, op := .load T x, type := ty, pos, after, guard := gd } (v) :=
  ⟨fun a w ha hm0 => by simp [execOp, ha.eval hx, Instr.loadAt, Instr.sureAddr, hv w hm0]⟩

theorem New.alloc {T : TypeId} {zs : List Value} (hz : zeroB P T = some zs) :
    New P r W chg news { dst, op := .alloc T, type := ty, pos, after, guard := gd } (fun b => .pointer (some ⟨b, 0, none⟩)) (.cells zs.toArray T (0, 0)) :=
  ⟨fun a w _ _ => by
    unfold zeroB at hz
    cases hi : P.info? T with
    | none => simp [hi] at hz
    | some i =>
      cases hzi : i.zero with
      | none => simp [hi, hzi] at hz
      | some z =>
        simp [hi, hzi] at hz
        subst hz
        simp [execOp, Instr.alloc, zeroValue, typeInfo, hi, hzi, newVar, newRow, newObj, Sem.run]⟩
theorem New.box {x : Operand} {T : TypeId} {v : Value} (hx : rev r x = some v) :
    New P r W chg news { dst, op := .box T x, type := ty, pos, after, guard := gd } (fun b => .pointer (some ⟨b, 0, none⟩)) (.cells (cellsL v).toArray T (0, 0)) :=
  ⟨fun a w ha _ => by
    have e1 : v.cells = (cellsL v).toArray := by cases v <;> rfl
    simp [execOp, Instr.box, ha.eval hx, newVar, newRow, newObj, Sem.run, e1]⟩


/-! ### Stores -/
theorem pasteN_spec : ∀ {vs cs cs' : List Value}, pasteN cs vs = some cs' → vs.length ≤ cs.length ∧ (∀ v ∈ vs, isOne v = true) ∧ cs' = vs ++ cs.drop vs.length
  | [], cs, cs', h => by cases cs <;> simp [pasteN] at h <;> simp [h]
  | v :: vs, [], cs', h => by simp [pasteN] at h
  | v :: vs, c :: cs, cs', h => by
    simp only [pasteN] at h
    split at h
    · rename_i hone
      split at h
      · rename_i l hl
        cases h
        obtain ⟨h1, h2, h3⟩ := pasteN_spec hl
        refine ⟨by simp; omega, ?_, by simp [h3]⟩
        intro u hu
        rcases List.mem_cons.1 hu with rfl | hu
        · exact hone
        · exact h2 u hu
      · cases h
    · cases h
theorem paste_spec : ∀ {o : Nat} {vs cs cs' : List Value}, paste cs o vs = some cs' → o + vs.length ≤ cs.length ∧ (∀ v ∈ vs, isOne v = true) ∧ cs' = cs.take o ++ (vs ++ cs.drop (o + vs.length))
  | 0, vs, cs, cs', h => by
    have h' : pasteN cs vs = some cs' := by cases cs <;> simpa [paste] using h
    obtain ⟨h1, h2, h3⟩ := pasteN_spec h'
    exact ⟨by omega, h2, by simpa using h3⟩
  | o + 1, vs, [], cs', h => by simp [paste] at h
  | o + 1, vs, c :: cs, cs', h => by
    simp only [paste] at h
    split at h
    · rename_i l hl
      cases h
      obtain ⟨h1, h2, h3⟩ := paste_spec hl
      exact ⟨by simp; omega, h2, by rw [show o + 1 + vs.length = (o + vs.length) + 1 by omega]; simp [h3]⟩
    · cases h

/-- The world behind a row of stores into one block. -/
def setCells (w : World) (b o : Nat) : List Value → World
  | [] => w
  | v :: vs => setCells (w.setCell ⟨b, o, none⟩ v) b (o + 1) vs

theorem run_storeCells {P : Program} {b : Nat} {T : TypeId} : ∀ (vs : List Value) (w : World) (cs : List Value) (o i : Nat), w.heap[b]? = some (.cells cs.toArray T (0, 0)) → (o + i) + vs.length ≤ cs.length → (∀ v ∈ vs, isOne v = true) →
    (storeCells ⟨b, o, none⟩ vs i).run P w = .ok () (setCells w b (o + i) vs)
  | [], w, cs, o, i, _, _, _ => by simp [storeCells, setCells]
  | v :: vs, w, cs, o, i, hb, hl, hone => by
    simp only [List.length_cons] at hl
    have hlt := lt_of_block hb
    have hc : w.cell? ⟨b, o + i, none⟩ = some cs[o + i] := by rw [cell_of_cells hb]; simp
    have hf : w.frozen? ⟨b, o + i, none⟩ = false := by simp [World.frozen?, hb]
    have hb' : (w.setCell ⟨b, o + i, none⟩ v).heap[b]? = some (.cells (cs.set (o + i) v).toArray T (0, 0)) := by
      have h' : w.heap[b] = .cells cs.toArray T (0, 0) := by simpa [Array.getElem?_eq_getElem hlt] using hb
      show (w.heap.modify b _)[b]? = _
      rw [Array.getElem?_eq_getElem (by simpa using hlt), Array.getElem_modify_self, h']
      simp
    have ih := run_storeCells (P := P) vs (w.setCell ⟨b, o + i, none⟩ v) (cs.set (o + i) v) o (i + 1) hb' (by simp; omega) (fun u hu => hone u (List.mem_cons_of_mem _ hu))
    have h1 := hone v (by simp)
    simp only [storeCells, setCells, store, add_plain]
    show ((Sem.store Mode.plain ⟨b, o + i, none⟩ v (Sem.pure ())).bind fun _ => storeCells ⟨b, o, none⟩ vs (i + 1)).run P w = _
    have e : ((Sem.store Mode.plain ⟨b, o + i, none⟩ v (Sem.pure ())).bind fun _ => storeCells ⟨b, o, none⟩ vs (i + 1)).run P w = (storeCells ⟨b, o, none⟩ vs (i + 1)).run P (w.setCell ⟨b, o + i, none⟩ v) := by
      simp only [Sem.bind]
      cases v <;> simp [isOne] at h1 <;> simp [Sem.run, hc, hf]
    rw [e, ih]
    rfl

theorem set_split (v : Value) (vs : List Value) : ∀ (cs : List Value) (o : Nat), o < cs.length → (cs.set o v).take (o + 1) ++ (vs ++ (cs.set o v).drop (o + 1 + vs.length)) = cs.take o ++ ((v :: vs) ++ cs.drop (o + (v :: vs).length))
  | [], o, h => by simp at h
  | c :: cs, 0, _ => by simp [Nat.add_comm 1]
  | c :: cs, o + 1, h => by
    have ih := set_split v vs cs o (by simpa using h)
    simp only [List.set_cons_succ, List.take_succ_cons, List.cons_append, List.length_cons] at ih ⊢
    rw [show o + 1 + 1 + vs.length = (o + 1 + vs.length) + 1 by omega, show o + 1 + (vs.length + 1) = (o + (vs.length + 1)) + 1 by omega]
    simp only [List.drop_succ_cons]
    rw [ih]

theorem setCells_spec {b : Nat} {T : TypeId} : ∀ (vs : List Value) (w : World) (cs : List Value) (o : Nat), w.heap[b]? = some (.cells cs.toArray T (0, 0)) → o + vs.length ≤ cs.length →
    (setCells w b o vs).os = w.os ∧ (setCells w b o vs).tape = w.tape ∧ (setCells w b o vs).output = w.output ∧ w.heap.size ≤ (setCells w b o vs).heap.size ∧ (∀ k, k ≠ b → (setCells w b o vs).heap[k]? = w.heap[k]?) ∧
      (setCells w b o vs).heap[b]? = some (.cells (cs.take o ++ (vs ++ cs.drop (o + vs.length))).toArray T (0, 0))
  | [], w, cs, o, hb, hl => by simp [setCells, hb]
  | v :: vs, w, cs, o, hb, hl => by
    simp only [List.length_cons] at hl
    have hlt := lt_of_block hb
    have hb' : (w.setCell ⟨b, o, none⟩ v).heap[b]? = some (.cells (cs.set o v).toArray T (0, 0)) := by
      have h' : w.heap[b] = .cells cs.toArray T (0, 0) := by simpa [Array.getElem?_eq_getElem hlt] using hb
      show (w.heap.modify b _)[b]? = _
      rw [Array.getElem?_eq_getElem (by simpa using hlt), Array.getElem_modify_self, h']
      simp
    obtain ⟨a1, a2, a3, a4, a5, a6⟩ := setCells_spec vs (w.setCell ⟨b, o, none⟩ v) (cs.set o v) (o + 1) hb' (by simp; omega)
    refine ⟨a1, a2, a3, Nat.le_trans (by simp [World.setCell]) a4, fun k hk => (a5 k hk).trans (Below.heap_setCell w ⟨b, o, none⟩ v k hk), ?_⟩
    show (setCells (w.setCell ⟨b, o, none⟩ v) b (o + 1) vs).heap[b]? = _
    rw [a6]
    rw [set_split v vs cs o (by omega)]

/-- A store into a block of the function's own. -/
theorem Sto.store {x y : Operand} {T T0 : TypeId} {b o sz : Nat} {g : Bool} {cs cs' : List Value} {v : Value} {news' : Blks} (hx : rev r x = some (.pointer (some ⟨b, o, none⟩))) (hy : rev r y = some v)
    (hu : Upd news b (.cells cs.toArray T0 (0, 0)) (.cells cs'.toArray T0 (0, 0)) news') (hT : tyB P T = some (g, sz)) (hs : Nat.beq (cellsL v).length sz = true) (hp : paste cs o (cellsL v) = some cs') :
    Sto P r W chg news { dst, op := .store T x y, type := ty, pos, after, guard := gd } chg news' :=
  ⟨fun a w ha hm0 => by
    have hb := (hm0.newd _ _ hu.mem).2
    obtain ⟨p1, p2, p3⟩ := paste_spec hp
    have hrun := run_storeCells (P := P) (cellsL v) w cs o 0 hb (by simpa using p1) p2
    have hsz : (sizeOf T).run P w = .ok sz w := by
      unfold tyB at hT
      split at hT
      · rename_i i d hi hd
        simp at hT
        simp [sizeOf, typeInfo, hi, hT.2]
      · cases hT
    have hlen := Nat.eq_of_beq_eq_true hs
    have e1 : v.cells.toList = cellsL v := by cases v <;> rfl
    have e2 : v.cells.size = sz := by rw [← hlen, ← e1]; simp
    have hst : (execOp a.eval { dst, op := .store T x y, type := ty, pos, after, guard := gd }).run P w = .ok .skip (setCells w b o (cellsL v)) := by
      simp [execOp, ha.eval hx, ha.eval hy, Instr.storeAt, Instr.sureAddr, storeVar, hsz, e2, e1, hrun]
    obtain ⟨a1, a2, a3, a4, a5, a6⟩ := setCells_spec (cellsL v) w cs o hb p1
    exact ⟨_, hst, hm0.upd_new hu a1 a2 a3 a4 (fun k _ hk => a5 k hk) (by rw [a6, ← p3])⟩⟩
/-- A store into a block that came in. -/
theorem Sto.store_chg {x y : Operand} {T T0 : TypeId} {b o sz : Nat} {g : Bool} {cs cs' : List Value} {v : Value} {chg' : Blks} (hx : rev r x = some (.pointer (some ⟨b, o, none⟩))) (hy : rev r y = some v)
    (hu : Upd chg b (.cells cs.toArray T0 (0, 0)) (.cells cs'.toArray T0 (0, 0)) chg') (hT : tyB P T = some (g, sz)) (hs : Nat.beq (cellsL v).length sz = true) (hp : paste cs o (cellsL v) = some cs') :
    Sto P r W chg news { dst, op := .store T x y, type := ty, pos, after, guard := gd } chg' news :=
  ⟨fun a w ha hm0 => by
    have hb := (hm0.chgd _ _ hu.mem).2
    obtain ⟨p1, p2, p3⟩ := paste_spec hp
    have hrun := run_storeCells (P := P) (cellsL v) w cs o 0 hb (by simpa using p1) p2
    have hsz : (sizeOf T).run P w = .ok sz w := by
      unfold tyB at hT
      split at hT
      · rename_i i d hi hd
        simp at hT
        simp [sizeOf, typeInfo, hi, hT.2]
      · cases hT
    have hlen := Nat.eq_of_beq_eq_true hs
    have e1 : v.cells.toList = cellsL v := by cases v <;> rfl
    have e2 : v.cells.size = sz := by rw [← hlen, ← e1]; simp
    have hst : (execOp a.eval { dst, op := .store T x y, type := ty, pos, after, guard := gd }).run P w = .ok .skip (setCells w b o (cellsL v)) := by
      simp [execOp, ha.eval hx, ha.eval hy, Instr.storeAt, Instr.sureAddr, storeVar, hsz, e2, e1, hrun]
    obtain ⟨a1, a2, a3, a4, a5, a6⟩ := setCells_spec (cellsL v) w cs o hb p1
    exact ⟨_, hst, hm0.upd_chg hu a1 a2 a3 a4 (fun k _ hk => a5 k hk) (by rw [a6, ← p3])⟩⟩



/-! ### Structs, slices, interface values -/
theorem foldl_set : ∀ (vs : List Value) (cs : List Value) (o k : Nat), o + k + vs.length ≤ cs.length →
    (vs.zipIdx k).foldl (fun (a : Array Value) (p : Value × Nat) => a.setIfInBounds (o + p.2) p.1) cs.toArray = (cs.take (o + k) ++ (vs ++ cs.drop (o + k + vs.length))).toArray
  | [], cs, o, k, _ => by simp
  | v :: vs, cs, o, k, h => by
    simp only [List.length_cons] at h
    have ih := foldl_set vs (cs.set (o + k) v) o (k + 1) (by simp; omega)
    simp only [List.zipIdx_cons, List.foldl_cons]
    rw [show (cs.toArray.setIfInBounds (o + k) v) = (cs.set (o + k) v).toArray by simp]
    rw [ih, show o + (k + 1) = o + k + 1 by omega, set_split v vs cs (o + k) (by omega)]
theorem fill_one (place : Nat → Option (Nat × Nat)) {cs : List Value} {i : Nat} {v : Value} {rest : List (Nat × Value)} {off sz : Nat} (hp : place i = some (off, sz)) (hs : (cellsL v).length = sz) (hl : off + sz ≤ cs.length) :
    Instr.fill place cs.toArray ((i, v) :: rest) = Instr.fill place (cs.take off ++ (cellsL v ++ cs.drop (off + (cellsL v).length))).toArray rest := by
  have e1 : v.cells = (cellsL v).toArray := by cases v <;> rfl
  simp only [Instr.fill, hp, e1]
  rw [if_neg (by simp [hs]; exact hl)]
  have := foldl_set (cellsL v) cs off 0 (by omega)
  simp only [Nat.add_zero] at this
  rw [← this]
  congr 1
  simp only [Array.zipIdx_toArray, List.foldl_toArray']

/-- The parts, laid into cells. -/
def pasteAll (pl : List (Nat × Nat)) : List Value → List (Nat × Value) → Option (List Value)
  | cs, [] => some cs
  | cs, (i, v) :: rest => match pl[i]? with
    | none => none
    | some (off, sz) => match Nat.beq (cellsL v).length sz with
      | true => match paste cs off (cellsL v) with
        | some cs' => pasteAll pl cs' rest
        | none => none
      | false => none
theorem pasteAll_spec {pl : List (Nat × Nat)} {place : Nat → Option (Nat × Nat)} (hpl : ∀ i p, pl[i]? = some p → place i = some p) : ∀ {parts : List (Nat × Value)} {cs cs' : List Value}, pasteAll pl cs parts = some cs' → Instr.fill place cs.toArray parts = some cs'.toArray
  | [], cs, cs', h => by simp [pasteAll] at h; simp [Instr.fill, h]
  | (i, v) :: rest, cs, cs', h => by
    simp only [pasteAll] at h
    split at h
    · cases h
    · rename_i off sz hi
      split at h
      · rename_i hb
        split at h
        · rename_i c2 hp
          have hb' := Nat.eq_of_beq_eq_true hb
          obtain ⟨p1, _, p3⟩ := paste_spec hp
          rw [fill_one place (hpl _ _ hi) hb' (by omega), ← p3]
          exact pasteAll_spec hpl h
        · cases h
      · cases h

/-- The values of parts. -/
def partsV (r : Regs) : List (Nat × Operand) → Option (List (Nat × Value))
  | [] => some []
  | (i, x) :: xs => match rev r x with
    | none => none
    | some v => match partsV r xs with
      | none => none
      | some vs => some ((i, v) :: vs)
theorem Agree.parts {a : Act} (h : Agree a r) : ∀ {xs : List (Nat × Operand)} {vs : List (Nat × Value)}, partsV r xs = some vs → xs.map (fun p => (p.1, a.eval p.2)) = vs
  | [], vs, hx => by simp [partsV] at hx; simp [hx]
  | (i, x) :: xs, vs, hx => by
    simp only [partsV] at hx
    split at hx
    · cases hx
    · rename_i v hv
      split at hx
      · cases hx
      · rename_i us hus
        cases hx
        simp [h.eval hv, h.parts hus]

theorem run_mapM_places {P : Program} {w : World} : ∀ (l : List Field) (pl : List (Nat × Nat)), (l.mapM fun f => (P.info? f.type).map fun j => (f.offset, j.size)) = some pl →
    ((l.toArray.mapM fun f => (do pure (f.offset, ← sizeOf f.type) : Sem (Nat × Nat)))).run P w = .ok pl.toArray w := by
  intro l pl h
  have key : ∀ (l : List Field) (pl : List (Nat × Nat)) (acc : Array (Nat × Nat)), (l.mapM fun f => (P.info? f.type).map fun j => (f.offset, j.size)) = some pl →
      (l.foldlM (fun (bs : Array (Nat × Nat)) f => bs.push <$> (do pure (f.offset, ← sizeOf f.type) : Sem (Nat × Nat))) acc).run P w = .ok (acc ++ pl.toArray) w := by
    intro l
    induction l with
    | nil => intro pl acc h; simp at h; subst h; simp
    | cons f l ih =>
      intro pl acc h
      simp only [List.mapM_cons] at h
      cases hi : P.info? f.type with
      | none => simp [hi] at h
      | some j =>
        cases hm : (l.mapM fun f => (P.info? f.type).map fun j => (f.offset, j.size)) with
        | none => simp [hi, hm] at h
        | some pl' =>
          simp [hi, hm] at h
          subst h
          have := ih pl' (acc.push (f.offset, j.size)) hm
          simp [List.foldlM_cons, sizeOf, typeInfo, hi] at this ⊢
          rw [this]
  have := key l pl #[] h
  rw [Array.mapM_eq_foldlM]
  simpa using this

theorem Val.build {T : TypeId} {parts : List (Nat × Operand)} {vs : List (Nat × Value)} {zs cs : List Value} {pl : List (Nat × Nat)} (hp : partsV r parts = some vs) (hz : zeroB P T = some zs) (hpl : placesB P T = some pl) (hc : pasteAll pl zs vs = some cs) :
    Val P r W chg news { dst, op := .build T parts.toArray, type := ty, pos, after, guard := gd } (.agg cs.toArray) :=
  ⟨fun a w ha hm0 => by
    have e1 := ha.parts hp
    have hzz : (zeroValue T).run P w = .ok (.agg zs.toArray) w ∨ ∃ z, (zeroValue T).run P w = .ok z w ∧ z.cells = zs.toArray := by
      right
      unfold zeroB at hz
      cases hi : P.info? T with
      | none => simp [hi] at hz
      | some i =>
        cases hzi : i.zero with
        | none => simp [hi, hzi] at hz
        | some z =>
          simp [hi, hzi] at hz
          exact ⟨z, by simp [zeroValue, typeInfo, hi, hzi], by rw [← hz]⟩
    have hz2 : ∃ z, (zeroValue T).run P w = .ok z w ∧ z.cells = zs.toArray := by
      rcases hzz with h | h
      · exact ⟨_, h, rfl⟩
      · exact h
    obtain ⟨z, hz3, hz4⟩ := hz2
    unfold placesB at hpl
    split at hpl
    · rename_i fs hfs
      have hm := run_mapM_places (P := P) (w := w) fs.toList pl hpl
      simp only [Array.toArray_toList] at hm
      have hf := pasteAll_spec (pl := pl) (place := fun i => pl[i]?) (fun i p h => h) hc
      have hm' : Sem.run P (Array.mapM (fun f => Prod.mk f.offset <$> sizeOf f.type) fs) w = .ok pl.toArray w := hm
      simp [execOp, Instr.build, hz3, hz4, run_underlying hfs, hm', e1, hf]
    · rename_i m e he
      cases hj : P.info? e with
      | none => simp [hj] at hpl
      | some j =>
        simp only [hj, Option.map_some, Option.some.injEq] at hpl
        have hf := pasteAll_spec (pl := pl) (place := fun i => some (i * j.size, j.size)) (fun i p h => by
          rw [← hpl] at h
          simp only [List.getElem?_map, Option.map_eq_some_iff] at h
          obtain ⟨k, hk, rfl⟩ := h
          have := List.getElem?_eq_some_iff.1 hk
          obtain ⟨_, he⟩ := this
          simp at he
          rw [he]) hc
        simp [execOp, Instr.build, hz3, hz4, run_underlying he, sizeOf, typeInfo, hj, e1, hf]
    · cases hpl⟩

end
end Go.Eng
