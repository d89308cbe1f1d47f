/- The engine: slices that are made, interface values, calls, and the ends of functions. No program is in sight. -/
import Derived.Test.YthoheicppmbepaaOps
namespace Go.Eng
open Go Go.RowKit

section
variable {P : Program} {ops : Array Oper} {Q : Exit → Act → World → Prop} {n : Nat} {r : Regs} {ds : List Deferred} {W : World} {chg news : Blks} {rest : List Oper}
variable {d : Nat} {ty : TypeId} {pos : String} {after : Array Edge} {dst : Option Tmp} {gd : Option (Nat × Bool)}

/-! ### A slice that is written out -/
/-- The parts in their order, each of so many cells: all cells. -/
def flatV (sz : Nat) : Nat → List (Nat × Value) → Option (List Value)
  | _, [] => some []
  | k, (i, v) :: rest => match Nat.beq i k with
    | true => match Nat.beq (cellsL v).length sz with
      | true => match flatV sz (k + 1) rest with
        | some l => some (cellsL v ++ l)
        | none => none
      | false => none
    | false => none
theorem flatV_len {sz : Nat} : ∀ {k : Nat} {parts : List (Nat × Value)} {l : List Value}, flatV sz k parts = some l → l.length = parts.length * sz
  | k, [], l, h => by simp [flatV] at h; simp [← h]
  | k, (i, v) :: rest, l, h => by
    simp only [flatV] at h
    split at h
    · split at h
      · rename_i hb
        split at h
        · rename_i l' hl
          cases h
          have := Nat.eq_of_beq_eq_true hb
          simp [flatV_len hl, this, Nat.add_mul, Nat.add_comm]
        · cases h
      · cases h
    · cases h
theorem flatV_spec {sz : Nat} : ∀ {k : Nat} {parts : List (Nat × Value)} {l cs : List Value}, flatV sz k parts = some l → cs.length = (k + parts.length) * sz →
    Instr.fill (fun i => some (i * sz, sz)) cs.toArray parts = some (cs.take (k * sz) ++ l).toArray
  | k, [], l, cs, h, hl => by
    simp [flatV] at h
    subst h
    simp only [List.length_nil, Nat.add_zero] at hl
    simp [Instr.fill, ← hl]
  | k, (i, v) :: rest, l, cs, h, hl => by
    simp only [flatV] at h
    split at h
    · rename_i hik
      have := Nat.eq_of_beq_eq_true hik
      subst this
      split at h
      · rename_i hb
        split at h
        · rename_i l' hl'
          cases h
          have hb' := Nat.eq_of_beq_eq_true hb
          simp only [List.length_cons] at hl
          have e1 : (i + (rest.length + 1)) * sz = i * sz + sz + rest.length * sz := by rw [Nat.add_mul, Nat.add_mul]; omega
          rw [fill_one _ rfl hb' (by omega)]
          have e2 : (i + 1) * sz = i * sz + sz := by rw [Nat.add_mul]; omega
          rw [flatV_spec hl' (by simp only [List.length_append, List.length_take, List.length_drop, hb']; rw [show i + 1 + rest.length = i + (rest.length + 1) by omega, e1]; omega)]
          congr 2
          rw [e2, ← hb', List.take_append]
          have h3 : (cs.take (i * (cellsL v).length)).length = i * (cellsL v).length := by rw [List.length_take]; rw [hb']; omega
          rw [h3, List.take_of_length_le (by omega), show i * (cellsL v).length + (cellsL v).length - i * (cellsL v).length = (cellsL v).length by omega, List.take_left]
          simp
        · cases h
      · cases h
    · cases h

theorem New.buildSlice {T e : TypeId} {len sz : Nat} {parts : List (Nat × Operand)} {vs : List (Nat × Value)} {zs cs : List Value} (hp : partsV r parts = some vs) (hT : slB P T = some (e, sz)) (hz : zeroB P e = some zs)
    (hl : Nat.beq parts.length len = true) (hs : Nat.ble (len * sz) 16777216 = true) (hs0 : Nat.beq (len * sz) 0 = false) (hc : flatV sz 0 vs = some cs) :
    New P r W chg news { dst, op := .buildSlice T len parts.toArray, type := ty, pos, after, guard := gd } (fun b => .slice (some ⟨b, 0, none⟩) len len) (.cells cs.toArray e (0, 0)) :=
  ⟨fun a w ha _ => by
    have e1 := ha.parts hp
    unfold slB at hT
    split at hT
    · rename_i e' hu
      cases hj : P.info? e' with
      | none => simp [hj] at hT
      | some j =>
        simp only [hj, Option.map_some, Option.some.injEq, Prod.mk.injEq] at hT
        obtain ⟨rfl, rfl⟩ := hT
        have hle := Nat.le_of_ble_eq_true hs
        have hne : ¬ len * j.size = 0 := by intro e; rw [e] at hs0; simp at hs0
        have hlen := Nat.eq_of_beq_eq_true hl
        have hvl : vs.length = len := by rw [← e1]; simpa using hlen
        cases hzi : j.zero with
        | none => unfold zeroB at hz; simp [hj, hzi] at hz
        | some z =>
          have hf := flatV_spec (cs := ((Array.range (len * j.size)).map (z.cells[· % z.cells.size]!)).toList) hc (by simp [hvl])
          simp only [Array.toArray_toList, Nat.zero_mul, List.take_zero, List.nil_append] at hf
          have e3 : (len * j.size > 2 ^ 24) = False := by simp; omega
          have hrun : (Instr.buildSlice T len vs.toArray).run P w = .ok (.slice (some ⟨w.heap.size, 0, none⟩) len len) (w.alloc (.cells cs.toArray e')) := by
            unfold Instr.buildSlice
            simp [run_underlying hu, sizeOf, typeInfo, hj, e3, hne, zeroValue, hzi, newRow, newObj, Sem.run, hf]
          simp [execOp, e1, hrun]
    · cases hT⟩

theorem Val.makeInterface {x : Operand} {T : TypeId} {v : Value} (hx : rev r x = some v) (hi : (P.underlying T).any (fun t => match t with | .interface _ => false | _ => true) = true) :
    Val P r W chg news { dst, op := .makeInterface T x, type := ty, pos, after, guard := gd } (.iface T v) :=
  ⟨fun a w ha hm0 => by
    cases hu : P.underlying T with
    | none => simp [hu] at hi
    | some t =>
      simp [hu] at hi
      cases t <;> simp at hi <;> simp [execOp, Instr.makeInterface, run_underlying hu, ha.eval hx]⟩

theorem Val.len_sl {x : Operand} {T e : TypeId} {sz len cap : Nat} {p : Option Addr} (hx : rev r x = some (.slice p len cap)) (hT : slB P T = some (e, sz)) :
    Val P r W chg news { dst, op := .call { callee := .builtin .len, args := #[x], argTypes := #[T] }, type := ty, pos, after, guard := gd } (.int .i64 (len : Int)) :=
  ⟨fun a w ha hm0 => by
    unfold slB at hT
    split at hT
    · rename_i e' hu
      rw [BigFrame.execOp_builtin, BigFrame.builtin_len]
      simp [ha.eval hx, Builtin.len_, run_underlying hu, goInt]
    · cases hT⟩
theorem Val.len_str {x : Operand} {T : TypeId} {b : ByteArray} (hx : rev r x = some (.string b)) (hT : P.underlying T = some .string) :
    Val P r W chg news { dst, op := .call { callee := .builtin .len, args := #[x], argTypes := #[T] }, type := ty, pos, after, guard := gd } (.int .i64 (b.size : Int)) :=
  ⟨fun a w ha hm0 => by
    rw [BigFrame.execOp_builtin, BigFrame.builtin_len]
    simp [ha.eval hx, Builtin.len_, run_underlying hT, goInt]⟩
theorem Val.convInt {x : Operand} {S T : TypeId} {ks k : IntKind} {p : Int} {u : TypeDesc} (hx : rev r x = some (.int ks p)) (hS : P.underlying S = some u) (hT : P.underlying T = some (.int k)) (hr : k.wrap p = p) :
    Val P r W chg news { dst, op := .convert S T x, type := ty, pos, after, guard := gd } (.int k p) :=
  ⟨fun a w ha hm0 => by simp [execOp, ha.eval hx, convert, run_underlying hS, run_underlying hT, Conv.intToInt, hr]⟩

/-! ### Calls -/
/-- A call of function f enters its Go text. -/
def Enters (P : Program) (f : FuncId) : Prop := ∀ args w, (callFunc f args).run P w = .ok (.enter f args) w

theorem enters_of {f : FuncId} {fn : Func} {c : Code} (hf : P.funcs[f]? = some fn) (hname : (fn.name == "runtime.NumGoroutine") = false) (hb : fn.body = some c) : Enters P f := fun args w => by
  have hn : ¬ fn.name = "runtime.NumGoroutine" := by simpa using hname
  simp [callFunc, hf, hn, hb]
/-- It hands back v, and leaves what lay there as it was. -/
def Pure (v : Value) (W : World) (e : Ending) (w : World) : Prop := e = .returned v ∧ Mem W [] [] w
/-- It hands back a value, or panics with a value; what lay there is as it was. -/
def Try (mis : Int → Value) (x : Except Int Value) (W : World) (e : Ending) (w : World) : Prop :=
  (match x with | .ok v => e = .returned v | .error k => e = .panicked [{ v := mis k, recovered := false }]) ∧ Mem W [] [] w
/-- It hands back v, and one block that lay there is another. -/
def Turns (b : Nat) (o : Obj) (v : Value) (W : World) (e : Ending) (w : World) : Prop := e = .returned v ∧ Mem W [(b, o)] [] w
/-- It hands back a value that holds the addresses of new blocks. -/
def News {β : Type} (v : β → Value) (nw : β → Blks) (W : World) (e : Ending) (w : World) : Prop := ∃ b : β, e = .returned (v b) ∧ Mem W [] (nw b) w

theorem RunL.call {o : Oper} {f : FuncId} {args : Array Value} {R : World → Ending → World → Prop} (hg : guardB ops r o.guard = some true) (hd : o.dst = some d)
    (he : ∀ a w, St n r ds W chg news a w → (execOp a.eval o).run P w = .ok (.enter f args) w)
    (hc : ∀ w, Mem W chg news w → Calls P f args w (R w))
    (hk : ∀ a w e w', St n r ds W chg news a w → R w e w' → match e with | .returned v => wpList P ops Q rest (a.put (some d) v) w' | .panicked c => Q (.panic c) a w' | .outgrown => LetsOut Q) :
    RunL P ops Q n (o :: rest) r ds W chg news := fun a w s =>
  wpList_yes (guardB_spec s.agree hg) fun K hK => by
    unfold Oper.wp
    rw [he a w s, Oper.upon_enter]
    refine (hc w s.mem).mono fun e w' hR => ?_
    have := hk a w e w' s hR
    cases e with
    | returned v => rw [hd]; exact hK _ _ this
    | panicked c => exact this
    | outgrown => exact this

/-- The operation is a call of function f with these arguments. -/
structure IsCall (P : Program) (r : Regs) (o : Oper) (f : FuncId) (args : Array Value) : Prop where
  runs : ∀ a w, Agree a r → (execOp a.eval o).run P w = .ok (.enter f args) w

theorem isCall_func {f : FuncId} {xs : List Operand} {vs : List Value} {ats : Array TypeId} {dst : Option Tmp} {gd : Option (Nat × Bool)} (hx : revs r xs = some vs) (he : Enters P f) :
    IsCall P r { dst, op := .call { callee := .value (.func f), args := xs.toArray, argTypes := ats }, type := ty, pos, after, guard := gd } f vs.toArray :=
  ⟨fun a w ha => by
    have h1 := ha.evals hx
    simp [execOp, resolve, h1, Deferred.ofValue, Act.eval, invoke]
    exact he _ _⟩
theorem isCall_value {x : Operand} {f : FuncId} {first cap : Array Value} {xs : List Operand} {vs : List Value} {ats : Array TypeId} {dst : Option Tmp} {gd : Option (Nat × Bool)} (hv : rev r x = some (.func (.func f) first cap)) (hx : revs r xs = some vs) (he : Enters P f) :
    IsCall P r { dst, op := .call { callee := .value x, args := xs.toArray, argTypes := ats }, type := ty, pos, after, guard := gd } f (first.toList ++ vs ++ cap.toList).toArray :=
  ⟨fun a w ha => by
    have h1 := ha.evals hx
    simp [execOp, resolve, h1, ha.eval hv, Deferred.ofValue, invoke]
    rw [show first ++ (vs.toArray ++ cap) = (first.toList ++ (vs ++ cap.toList)).toArray by apply Array.ext'; simp]
    exact he _ _⟩
/-- A method that is called on an interface value whose dynamic type is known. -/
theorem isCall_invoke {x : Operand} {f : FuncId} {name : String} {T : TypeId} {v v' : Value} {xs : List Operand} {vs : List Value} {ats : Array TypeId} {dst : Option Tmp} {gd : Option (Nat × Bool)} (hv : rev r x = some (.iface T v)) (hx : revs r xs = some vs)
    (hm : ∀ w, (method (P.types.size + Made.depth) T v name).run P w = .ok (f, v') w) (he : Enters P f) :
    IsCall P r { dst, op := .call { callee := .invoke x name, args := xs.toArray, argTypes := ats }, type := ty, pos, after, guard := gd } f (v' :: vs).toArray :=
  ⟨fun a w ha => by
    have h1 := ha.evals hx
    have h2 := hm w
    simp [execOp, resolve, h1, ha.eval hv, invoke, callMethod, h2]
    exact he _ _⟩

theorem RunL.callP {o : Oper} {f : FuncId} {args : Array Value} {v : Value} (hi : IsCall P r o f args) (hg : guardB ops r o.guard = some true) (hd : o.dst = some d) (hn : Nat.ble (d + 1) n = true)
    (hc : ∀ w, Mem W chg news w → Calls P f args w (Pure v w)) (h : RunL P ops Q n rest ((d, v) :: r) ds W chg news) : RunL P ops Q n (o :: rest) r ds W chg news :=
  RunL.call hg hd (fun a w s => hi.runs a w s.agree) hc (fun a w e w' s hR => by
    obtain ⟨rfl, hm⟩ := hR
    have s2 := s.put (Nat.le_of_ble_eq_true hn) v
    exact h _ _ ⟨s2.size, s2.agree, s2.defers, s.mem.pass hm⟩)
/-- A call that may panic. -/
theorem RunL.callT {o : Oper} {f : FuncId} {args : Array Value} {mis : Int → Value} {x : Except Int Value} (hi : IsCall P r o f args) (hg : guardB ops r o.guard = some true) (hd : o.dst = some d) (hn : Nat.ble (d + 1) n = true)
    (hc : ∀ w, Mem W chg news w → Calls P f args w (Try mis x w)) (herr : ∀ k, x = .error k → RunE Q n (.panic [{ v := mis k, recovered := false }]) r ds W chg news)
    (hok : ∀ v, x = .ok v → RunL P ops Q n rest ((d, v) :: r) ds W chg news) : RunL P ops Q n (o :: rest) r ds W chg news :=
  RunL.call hg hd (fun a w s => hi.runs a w s.agree) hc (fun a w e w' s hR => by
    obtain ⟨he, hm⟩ := hR
    cases x with
    | ok v =>
      subst he
      have s2 := s.put (Nat.le_of_ble_eq_true hn) v
      exact hok v rfl _ _ ⟨s2.size, s2.agree, s2.defers, s.mem.pass hm⟩
    | error k =>
      subst he
      exact herr k rfl a w' ⟨s.size, s.agree, s.defers, s.mem.pass hm⟩)
/-- A call that makes blocks. -/
theorem RunL.callN {β : Type} {o : Oper} {f : FuncId} {args : Array Value} {v : β → Value} {nw : β → Blks} (hi : IsCall P r o f args) (hg : guardB ops r o.guard = some true) (hd : o.dst = some d) (hn : Nat.ble (d + 1) n = true)
    (hc : ∀ w, Mem W chg news w → Calls P f args w (News v nw w)) (h : ∀ b, RunL P ops Q n rest ((d, v b) :: r) ds W chg (nw b ++ news)) : RunL P ops Q n (o :: rest) r ds W chg news :=
  RunL.call hg hd (fun a w s => hi.runs a w s.agree) hc (fun a w e w' s hR => by
    obtain ⟨b, rfl, hm⟩ := hR
    have s2 := s.put (Nat.le_of_ble_eq_true hn) (v b)
    exact h b _ _ ⟨s2.size, s2.agree, s2.defers, s.mem.trans hm⟩)

/-- What a callee that turns one block does to the caller's memory. -/
theorem Mem.turn_new {w w' : World} {b : Nat} {o o' : Obj} {news' : Blks} (h : Mem W chg news w) (hu : Upd news b o o' news') (h' : Mem w [(b, o')] [] w') : Mem W chg news' w' :=
  h.upd_new hu h'.os h'.tape h'.output h'.size (fun k hk hne => h'.old k hk (fun o'' hm => by simp at hm; exact hne hm.1)) (h'.chgd b o' (by simp)).2
theorem Mem.turn_chg {w w' : World} {b : Nat} {o o' : Obj} {chg' : Blks} (h : Mem W chg news w) (hu : Upd chg b o o' chg') (h' : Mem w [(b, o')] [] w') : Mem W chg' news w' :=
  h.upd_chg hu h'.os h'.tape h'.output h'.size (fun k hk hne => h'.old k hk (fun o'' hm => by simp at hm; exact hne hm.1)) (h'.chgd b o' (by simp)).2
theorem RunL.callU {o : Oper} {f : FuncId} {args : Array Value} {v : Value} {b : Nat} {ob ob' : Obj} {news' : Blks} (hi : IsCall P r o f args) (hg : guardB ops r o.guard = some true) (hd : o.dst = some d) (hn : Nat.ble (d + 1) n = true)
    (hu : Upd news b ob ob' news') (hc : ∀ w, Mem W chg news w → Calls P f args w (Turns b ob' v w)) (h : RunL P ops Q n rest ((d, v) :: r) ds W chg news') : RunL P ops Q n (o :: rest) r ds W chg news :=
  RunL.call hg hd (fun a w s => hi.runs a w s.agree) hc (fun a w e w' s hR => by
    obtain ⟨rfl, hm⟩ := hR
    have s2 := s.put (Nat.le_of_ble_eq_true hn) v
    exact h _ _ ⟨s2.size, s2.agree, s2.defers, s.mem.turn_new hu hm⟩)

/-! ### Panics, deferred calls -/
theorem RunL.panic {x : Operand} {T : TypeId} {v : Value} {dst : Option Tmp} (hx : rev r x = some (.iface T v)) (h : RunE Q n (.panic [{ v := .iface T v, recovered := false }]) r ds W chg news) :
    RunL P ops Q n ({ dst, op := .call { callee := .builtin .panic, args := #[x], argTypes := #[] }, type := ty, pos, after, guard := none } :: rest) r ds W chg news := fun a w s =>
  wpList_plain rfl fun K hK => by
    unfold Oper.wp
    rw [BigFrame.execOp_builtin, BigFrame.builtin_panic]
    simp [s.agree.eval hx, Instr.panic, goPanic, Sem.run]
    exact h a w s
theorem RunL.panicOp {x : Operand} {T : TypeId} {v : Value} {dst : Option Tmp} (hx : rev r x = some (.iface T v)) (h : RunE Q n (.panic [{ v := .iface T v, recovered := false }]) r ds W chg news) :
    RunL P ops Q n ({ dst, op := .panic x, type := ty, pos, after, guard := none } :: rest) r ds W chg news := fun a w s =>
  wpList_plain rfl fun K hK => by
    have e : (execOp a.eval { dst, op := .panic x, type := ty, pos, after, guard := none }).run P w = .halt (.panic (.iface T v)) w := by
      simp [execOp, s.agree.eval hx, Instr.panic, goPanic, Sem.run]
    unfold Oper.wp
    rw [e, Oper.upon_panic]
    exact h a w s
theorem RunL.defer {f : FuncId} {xs : List Operand} {vs : List Value} {ats : Array TypeId} (hx : revs r xs = some vs)
    (h : RunL P ops Q n rest r ({ target := .fn (.func f) #[], args := vs.toArray } :: ds) W chg news) :
    RunL P ops Q n ({ dst := none, op := .defer { callee := .value (.func f), args := xs.toArray, argTypes := ats }, type := ty, pos, after, guard := none } :: rest) r ds W chg news := fun a w s =>
  wpList_plain rfl fun K hK => by
    have h1 := s.agree.evals hx
    have e : (execOp a.eval { dst := none, op := .defer { callee := .value (.func f), args := xs.toArray, argTypes := ats }, type := ty, pos, after, guard := none }).run P w = .ok (.defer { target := .fn (.func f) #[], args := vs.toArray }) w := by
      simp [execOp, resolve, h1, Deferred.ofValue, Act.eval]
    unfold Oper.wp
    rw [e, Oper.upon_defer]
    exact hK _ _ (h _ _ ⟨s.size, s.agree, by rw [← s.defers]; rfl, s.mem⟩)

/-! ### Ends -/
inductive ResV (P : Program) (r : Regs) (bl : Blks) : ResultVar → Value → Prop
  | tmp {t : Nat} {v : Value} (h : rget r t = some v) : ResV P r bl (.tmp t) v
  | agg {a b o sz : Nat} {T T0 : TypeId} {cs vs : List Value} {fr : Nat × Nat} (h : rget r a = some (.pointer (some ⟨b, o, none⟩))) (hm : (b, .cells cs.toArray T0 fr) ∈ bl) (hT : tyB P T = some (true, sz)) (hv : grab cs o sz = some vs) : ResV P r bl (.cell a T) (.agg vs.toArray)
  | one {a b o sz : Nat} {T T0 : TypeId} {cs : List Value} {v : Value} {fr : Nat × Nat} (h : rget r a = some (.pointer (some ⟨b, o, none⟩))) (hm : (b, .cells cs.toArray T0 fr) ∈ bl) (hT : tyB P T = some (false, sz)) (hv : nth cs o = some v) : ResV P r bl (.cell a T) v

/-- How a result variable is read. -/
def readRes (tmps : Array Value) : ResultVar → Sem Value
  | .tmp t => pure (tmps.getD t undef)
  | .cell a t => do loadVar t (← asAddr (tmps.getD a undef))

theorem ResV.run {bl : Blks} {x : ResultVar} {v : Value} (h : ResV P r bl x v) {a : Act} {w : World} (ha : Agree a r) (hm : ∀ b o, (b, o) ∈ bl → w.heap[b]? = some o) : (readRes a.tmps x).run P w = .ok v w := by
  cases h with
  | tmp h => have := ha _ _ h; simp [readRes, this]
  | agg h hb hT hv =>
    have h1 := ha _ _ h
    obtain ⟨g1, g2⟩ := grab_spec hv
    have hc := hm _ _ hb
    have := run_loadVar_agg (P := P) (w := w) (T := _) (a := ⟨_, _, none⟩) (by rw [g1]; exact hT) (fun j hj => by rw [add_plain, cell_of_cells hc, g2 j (by omega)]; simp [hj])
    simp [readRes, h1, asAddr, this]
  | one h hb hT hv =>
    have h1 := ha _ _ h
    have hc := hm _ _ hb
    have := run_loadVar_one (P := P) (w := w) (a := ⟨_, _, none⟩) hT (by rw [cell_of_cells hc, ← nth_eq]; exact hv)
    simp [readRes, h1, asAddr, this]

theorem results_eq (fn : Func) (tmps : Array Value) : results fn tmps = (do let vs ← fn.results.mapM (readRes tmps); pure (if h : vs.size = 1 then vs[0] else .tuple vs)) := by
  unfold results
  congr 1

theorem run_results0 {fn : Func} {tmps : Array Value} {w : World} (hr : fn.results = #[]) : (results fn tmps).run P w = .ok (.tuple #[]) w := results_none hr tmps P w
theorem run_results1 {fn : Func} {tmps : Array Value} {w : World} {x : ResultVar} {v : Value} (hr : fn.results = #[x]) (h : (readRes tmps x).run P w = .ok v w) : (results fn tmps).run P w = .ok v w := by
  rw [results_eq, hr]; simp [h]
theorem run_results2 {fn : Func} {tmps : Array Value} {w : World} {x y : ResultVar} {v u : Value} (hr : fn.results = #[x, y]) (h : (readRes tmps x).run P w = .ok v w) (h2 : (readRes tmps y).run P w = .ok u w) : (results fn tmps).run P w = .ok (.tuple #[v, u]) w := by
  rw [results_eq, hr]; simp [h, h2]
theorem run_results3 {fn : Func} {tmps : Array Value} {w : World} {x y z : ResultVar} {v u t : Value} (hr : fn.results = #[x, y, z]) (h : (readRes tmps x).run P w = .ok v w) (h2 : (readRes tmps y).run P w = .ok u w) (h3 : (readRes tmps z).run P w = .ok t w) : (results fn tmps).run P w = .ok (.tuple #[v, u, t]) w := by
  rw [results_eq, hr]; simp [h, h2, h3]
theorem run_results4 {fn : Func} {tmps : Array Value} {w : World} {x y z x4 : ResultVar} {v u t v4 : Value} (hr : fn.results = #[x, y, z, x4]) (h : (readRes tmps x).run P w = .ok v w) (h2 : (readRes tmps y).run P w = .ok u w) (h3 : (readRes tmps z).run P w = .ok t w) (h4 : (readRes tmps x4).run P w = .ok v4 w) : (results fn tmps).run P w = .ok (.tuple #[v, u, t, v4]) w := by
  rw [results_eq, hr]; simp [h, h2, h3, h4]

/-- The results, as one value. -/
inductive ResVs (P : Program) (r : Regs) (bl : Blks) (fn : Func) : Value → Prop
  | r0 (h : fn.results = #[]) : ResVs P r bl fn (.tuple #[])
  | r1 {x : ResultVar} {v : Value} (h : fn.results = #[x]) (hx : ResV P r bl x v) : ResVs P r bl fn v
  | r2 {x y : ResultVar} {v u : Value} (h : fn.results = #[x, y]) (hx : ResV P r bl x v) (hy : ResV P r bl y u) : ResVs P r bl fn (.tuple #[v, u])
  | r3 {x y z : ResultVar} {v u t : Value} (h : fn.results = #[x, y, z]) (hx : ResV P r bl x v) (hy : ResV P r bl y u) (hz : ResV P r bl z t) : ResVs P r bl fn (.tuple #[v, u, t])
  | r4 {x y z x4 : ResultVar} {v u t v4 : Value} (h : fn.results = #[x, y, z, x4]) (hx : ResV P r bl x v) (hy : ResV P r bl y u) (hz : ResV P r bl z t) (h4 : ResV P r bl x4 v4) : ResVs P r bl fn (.tuple #[v, u, t, v4])
theorem ResVs.run {bl : Blks} {fn : Func} {v : Value} (h : ResVs P r bl fn v) {a : Act} {w : World} (ha : Agree a r) (hm : ∀ b o, (b, o) ∈ bl → w.heap[b]? = some o) : (results fn a.tmps).run P w = .ok v w := by
  cases h with
  | r0 h => exact run_results0 h
  | r1 h hx => exact run_results1 h (hx.run ha hm)
  | r2 h hx hy => exact run_results2 h (hx.run ha hm) (hy.run ha hm)
  | r3 h hx hy hz => exact run_results3 h (hx.run ha hm) (hy.run ha hm) (hz.run ha hm)
  | r4 h hx hy hz h4 => exact run_results4 h (hx.run ha hm) (hy.run ha hm) (hz.run ha hm) (h4.run ha hm)

theorem RunE.ret {fn : Func} {R : Ending → World → Prop} {v : Value} (hv : ResVs P r (chg ++ news) fn v) (hR : ∀ w, Mem W chg news w → R (.returned v) w) : RunE (bodyPost P fn R) n .ret r [] W chg news := fun _ w s =>
  ⟨s.defers, v, hv.run s.agree (fun _ _ h => s.mem.at h), hR w s.mem⟩
theorem RunE.fin {fn : Func} {R : Ending → World → Prop} {v : Value} (hv : ResVs P r (chg ++ news) fn v) (hR : ∀ w, Mem W chg news w → R (.returned v) w) : RunE (bodyPost P fn R) n .normal r [] W chg news := fun _ w s =>
  ⟨s.defers, v, hv.run s.agree (fun _ _ h => s.mem.at h), hR w s.mem⟩
theorem RunE.retP {fn : Func} {v v0 : Value} (hv : ResVs P r news fn v) (he : v = v0) : RunE (bodyPost P fn (Pure v0 W)) n .ret r [] W [] news :=
  RunE.ret (chg := []) hv (fun _ hm => ⟨by rw [he], hm.drop⟩)
theorem RunE.finP {fn : Func} {v v0 : Value} (hv : ResVs P r news fn v) (he : v = v0) : RunE (bodyPost P fn (Pure v0 W)) n .normal r [] W [] news :=
  RunE.fin (chg := []) hv (fun _ hm => ⟨by rw [he], hm.drop⟩)
theorem RunE.retT {fn : Func} {v : Value} {mis : Int → Value} {x : Except Int Value} (hv : ResVs P r news fn v) (he : x = .ok v) : RunE (bodyPost P fn (Try mis x W)) n .ret r [] W [] news :=
  RunE.ret (chg := []) hv (fun _ hm => ⟨by rw [he], hm.drop⟩)
theorem RunE.finT {fn : Func} {v : Value} {mis : Int → Value} {x : Except Int Value} (hv : ResVs P r news fn v) (he : x = .ok v) : RunE (bodyPost P fn (Try mis x W)) n .normal r [] W [] news :=
  RunE.fin (chg := []) hv (fun _ hm => ⟨by rw [he], hm.drop⟩)
theorem RunE.panicT {fn : Func} {mis : Int → Value} {x : Except Int Value} {k : Int} (he : x = .error k) : RunE (bodyPost P fn (Try mis x W)) n (.panic [{ v := mis k, recovered := false }]) r [] W [] news := fun _ w s =>
  ⟨s.defers, by rw [he], s.mem.drop⟩
theorem RunE.pass_panic {K : Act → World → Prop} {c : List PanicEntry} (h : RunE Q n (.panic c) r ds W chg news) : RunE (Exit.then K Q) n (.panic c) r ds W chg news := fun a w s => h a w s
theorem RunE.block_panic {id : Nat} {c : List PanicEntry} (h : RunE Q n (.panic c) r ds W chg news) : RunE (Exit.inBlock id Q) n (.panic c) r ds W chg news := fun a w s => h a w s

/-- A function is entered. -/
def args0 : Nat → List Value → Regs
  | _, [] => []
  | k, v :: vs => (k, v) :: args0 (k + 1) vs
theorem rget_args0 : ∀ (vs : List Value) (k t : Nat) (v : Value), rget (args0 k vs) t = some v → k ≤ t ∧ vs[t - k]? = some v
  | [], k, t, v, h => by simp [args0, rget] at h
  | u :: vs, k, t, v, h => by
    simp only [args0, rget] at h
    split at h
    · rename_i he
      have := Nat.eq_of_beq_eq_true he
      subst this
      cases h
      simp
    · obtain ⟨h1, h2⟩ := rget_args0 vs (k + 1) t v h
      refine ⟨by omega, ?_⟩
      rw [show t - k = (t - (k + 1)) + 1 by omega]
      simpa using h2
theorem start_st {vs : List Value} {n : Nat} (hn : vs.length ≤ n) {chg : Blks} (hm : Mem W chg [] W) : St n (args0 0 vs) [] W chg [] { tmps := vs.toArray ++ Array.replicate (n - vs.toArray.size) undef, defers := [] } W :=
  ⟨by simp; omega, fun t v h => by
    obtain ⟨_, h2⟩ := rget_args0 vs 0 t v h
    simp only [Nat.sub_zero] at h2
    have := (List.getElem?_eq_some_iff.1 h2).1
    simp only [Array.getElem?_append, List.size_toArray, this, if_true, List.getElem?_toArray, h2], rfl, hm⟩
theorem calls_start {f : FuncId} {fn : Func} {c : Code} {vs : List Value} {R : Ending → World → Prop} (hf : P.funcs[f]? = some fn) (hb : fn.body = some c) (hn : Nat.ble vs.length fn.ntmps = true)
    (h : RunC P (bodyPost P fn R) fn.ntmps c (args0 0 vs) [] W [] []) : Calls P f vs.toArray W R :=
  calls_of_wp hf hb (h _ _ (start_st (Nat.le_of_ble_eq_true hn) (Mem.refl W)))
theorem calls_start_chg {f : FuncId} {fn : Func} {c : Code} {vs : List Value} {R : Ending → World → Prop} {b : Nat} {o : Obj} (hbo : W.heap[b]? = some o) (hf : P.funcs[f]? = some fn) (hb : fn.body = some c) (hn : Nat.ble vs.length fn.ntmps = true)
    (h : RunC P (bodyPost P fn R) fn.ntmps c (args0 0 vs) [] W [(b, o)] []) : Calls P f vs.toArray W R :=
  calls_of_wp hf hb (h _ _ (start_st (Nat.le_of_ble_eq_true hn) (Mem.start hbo)))
end
end Go.Eng
