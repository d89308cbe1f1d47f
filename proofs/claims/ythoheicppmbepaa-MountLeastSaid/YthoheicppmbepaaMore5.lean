/- The engine: an element of an array value; a deferred call of a function value that holds a block. No program is in sight. -/
import Derived.Test.YthoheicppmbepaaMore4
namespace Go.Eng
open Go Go.RowKit
section
variable {P : Program} {r : Regs} {W : World} {chg news : Blks}
variable {d : Nat} {ty : TypeId} {pos : String} {after : Array Edge} {dst : Option Tmp} {gd : Option (Nat × Bool)}
/-- An array of elements of one cell: of how many. -/
def arr1B (P : Program) (T : TypeId) : Option Nat :=
  match P.underlying T with
  | some (.array n e) => match P.underlying e with
    | some d => if isAggD d then none else match P.info? e with
      | some j => if j.size = 1 then some n else none
      | none => none
    | none => none
  | _ => none
theorem Val.index1 {x y : Operand} {T : TypeId} {len : Nat} {cs : Array Value} {v : Value} {k : IntKind} {i : Int} (hx : rev r x = some (.agg cs)) (hy : rev r y = some (.int k i)) (hT : arr1B P T = some len) (h0 : 0 ≤ i) (h1 : i < len) (hv : cs[i.toNat]? = some v) :
    Val P r W chg news { dst, op := .index T x y, type := ty, pos, after, guard := gd } v :=
  ⟨fun a w ha _ => by
    unfold arr1B at hT
    split at hT
    · rename_i n e hu
      split at hT
      · rename_i d hd
        split at hT
        · cases hT
        · rename_i hag
          split at hT
          · rename_i j hj
            split at hT
            · rename_i hs
              cases hT
              have hp := run_part1 (w := w) hd (by simpa using hag) hv
              simp [execOp, ha.eval hx, ha.eval hy, Instr.index, asIntOf, run_underlying hu, sizeOf, typeInfo, hj, hs, h0, h1, hp]
            · cases hT
          · cases hT
      · cases hT
    · cases hT⟩
theorem Val.eql_iface_nil {x : Operand} {T yt t : TypeId} {v : Value} {ms : Array (String × TypeId)} (hx : rev r x = some (.iface t v)) (hT : P.underlying T = some (.interface ms)) :
    Val P r W chg news { dst, op := .binOp .eql T x (.const .nilIface) yt, type := ty, pos, after, guard := gd } (.bool false) :=
  ⟨fun a w ha _ => by
    have h := run_equal_iface_nil (P := P) (w := w) (t := t) (v := v) hT
    simp [execOp, ha.eval hx, BigFrame.eval_const, eqGuard, binOp, h]⟩
theorem Val.eql_nil_nil {x : Operand} {T yt : TypeId} {ms : Array (String × TypeId)} (hx : rev r x = some .nilIface) (hT : P.underlying T = some (.interface ms)) :
    Val P r W chg news { dst, op := .binOp .eql T x (.const .nilIface) yt, type := ty, pos, after, guard := gd } (.bool true) :=
  ⟨fun a w ha _ => by
    have h := run_equal_nil_nil (P := P) (w := w) hT
    simp [execOp, ha.eval hx, BigFrame.eval_const, eqGuard, binOp, h]⟩
/-- A quotient, and what is left, rounded toward 0. -/
theorem Val.quoT {x y : Operand} {T yt : TypeId} {k : IntKind} {p q : Int} (hx : rev r x = some (.int k p)) (hy : rev r y = some (.int k q)) (hq : 0 < q) (hr : k.wrap (p.tdiv q) = p.tdiv q) :
    Val P r W chg news { dst, op := .binOp .quo T x y yt, type := ty, pos, after, guard := gd } (.int k (p.tdiv q)) :=
  ⟨fun a w ha _ => by
    have : ¬ q = 0 := by omega
    simp [execOp, ha.eval hx, ha.eval hy, eqGuard, binOp, Op.intDiv, this, hr]⟩
theorem Val.remT {x y : Operand} {T yt : TypeId} {k : IntKind} {p q : Int} (hx : rev r x = some (.int k p)) (hy : rev r y = some (.int k q)) (hq : 0 < q) :
    Val P r W chg news { dst, op := .binOp .rem T x y yt, type := ty, pos, after, guard := gd } (.int k (p.tmod q)) :=
  ⟨fun a w ha _ => by
    have : ¬ q = 0 := by omega
    simp [execOp, ha.eval hx, ha.eval hy, eqGuard, binOp, Op.intDiv, this]⟩
/-- What is left of a slice without its first elements. -/
theorem Val.sliceFrom {x y : Operand} {T e : TypeId} {b o n cap sz : Nat} {k : IntKind} {i : Int} {q : Option Addr} (hx : rev r x = some (.slice q n cap)) (hy : rev r y = some (.int k i)) (hT : slB P T = some (e, sz)) (hq : q = some ⟨b, o, none⟩) (h0 : 0 ≤ i) (h1 : i < n) (h2 : n ≤ cap) :
    Val P r W chg news { dst, op := .slice T x (some y) none none, type := ty, pos, after, guard := gd } (.slice (some ⟨b, o + i.toNat * sz, none⟩) (n - i.toNat) (cap - i.toNat)) :=
  ⟨fun a w ha _ => by
    subst hq
    unfold slB at hT
    split at hT
    · rename_i e2 hu
      cases hj : P.info? e2 with
      | none => simp [hj] at hT
      | some j =>
        simp [hj] at hT
        obtain ⟨rfl, rfl⟩ := hT
        have h3 : ¬ cap = i.toNat := by omega
        have h4 : i ≤ (n : Int) := by omega
        simp [execOp, ha.eval hx, ha.eval hy, Instr.sliceAt, Instr.sureAddr, Instr.slice, Instr.sliceBounds, Instr.sliceBound, asIntOf, run_underlying hu, sizeOf, typeInfo, hj, h0, h4, h3, add_plain]
    · cases hT⟩
end
section
variable {P : Program} {ops : Array Oper} {Q : Exit → Act → World → Prop} {n : Nat} {r : Regs} {ds : List Deferred} {W : World} {chg news : Blks}
/-- A loop of few rounds, one after the other. -/
theorem RunC.unroll {body : Code} (k : Nat) (h : RunC P (Exit.then (Code.rounds P body Q k) Q) n body r ds W chg news) : RunC P Q n (.loop body) r ds W chg news := fun a w s => wp_loop_rounds (k + 1) (h a w s)
theorem RunE.rounds {body : Code} {k : Nat} (h : RunC P (Exit.then (Code.rounds P body Q k) Q) n body r ds W chg news) : RunE (Exit.then (Code.rounds P body Q (k + 1)) Q) n .normal r ds W chg news := fun a w s => h a w s
theorem leaves_calmC {fn : Func} {f : FuncId} {T : TypeId} {mis : Int → Value} {v v0 : Value} {b : Nat} (hc : Catches P f T mis) (he : Enters P f) (hv : ResVs P r news fn v) (hv0 : v = v0) {a : Act} {w : World} (s : St n r [{ target := .fn (.func f) #[.pointer (some ⟨b, 0, none⟩)], args := #[] }] W [] news a w) :
    Leaves P fn a.tmps (Pure v0 W) a.defers .returning w := by
  rw [s.defers]
  refine leaves_cons (f := f) (args := #[.pointer (some ⟨b, 0, none⟩)]) (by simp) (by simp [invoke]; exact he _ _) ?_
  refine (hc.calm b w).mono ?_
  rintro e u w' ⟨⟨x, rfl⟩, rfl, hm⟩
  have hm2 := s.mem.pass hm
  exact ⟨v, hv.run s.agree (fun _ _ h => hm2.at (by simpa using h)), by rw [hv0], hm2.drop⟩
theorem RunE.retDC {fn : Func} {f : FuncId} {T : TypeId} {mis : Int → Value} {v v0 : Value} {b : Nat} (hc : Catches P f T mis) (he : Enters P f) (hv : ResVs P r news fn v) (hv0 : v = v0) :
    RunE (bodyPostD P fn (Pure v0 W)) n .ret r [{ target := .fn (.func f) #[.pointer (some ⟨b, 0, none⟩)], args := #[] }] W [] news := fun _ _ s => leaves_calmC hc he hv hv0 s
theorem RunE.panDC {fn : Func} {f : FuncId} {T : TypeId} {mis : Int → Value} {v v0 x : Value} {b : Nat} {k : Int} {news' : Blks} (hc : Catches P f T mis) (he : Enters P f) (hu : Upd news b (.cells #[x] T (0, 0)) (.cells #[.int .i64 k] T (0, 0)) news') (hv : ResVs P r news' fn v) (hv0 : v = v0) :
    RunE (bodyPostD P fn (Pure v0 W)) n (.panic [{ v := mis k, recovered := false }]) r [{ target := .fn (.func f) #[.pointer (some ⟨b, 0, none⟩)], args := #[] }] W [] news := fun a w s => by
  show Leaves P fn a.tmps (Pure v0 W) a.defers _ w
  rw [s.defers]
  refine leaves_cons (f := f) (args := #[.pointer (some ⟨b, 0, none⟩)]) (by simp) (by simp [invoke]; exact he _ _) ?_
  refine (hc.wild b k x w (s.mem.newd _ _ hu.mem).2).mono ?_
  rintro e u w' ⟨⟨y, rfl⟩, rfl, hm⟩
  have hm2 := s.mem.turn_new hu hm
  exact ⟨v, hv.run s.agree (fun _ _ h => hm2.at (by simpa using h)), by rw [hv0], hm2.drop⟩
end
end Go.Eng
