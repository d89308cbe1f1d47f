/- More operations: a field of a struct value, structs of two whole numbers compared, unsigned numbers. -/
import Derived.Test.YthoheicppmbepaaLoop
namespace Go.Eng
open Go
section
variable {P : Program} {r : Regs} {W : World} {chg news : Blks}
variable {d : Nat} {ty : TypeId} {pos : String} {after : Array Edge} {dst : Option Tmp} {gd : Option (Nat × Bool)}
/-- A field of one cell: where it lies. -/
def field1B (P : Program) (T : TypeId) (i : Nat) : Option Nat :=
  match P.underlying T with
  | some (.struct fs) => match fs[i]? with
    | some f => match P.underlying f.type with
      | some d => if isAggD d then none else some f.offset
      | none => none
    | none => none
  | _ => none
theorem run_part1 {w : World} {t : TypeId} {d : TypeDesc} {cs : Array Value} {off : Nat} {v : Value} (hu : P.underlying t = some d) (ha : isAggD d = false) (h : cs[off]? = some v) : (part t cs off).run P w = .ok v w := by
  have h1 : (isAgg t).run P w = .ok false w := by
    cases d <;> simp [isAggD] at ha <;> simp [isAgg, run_underlying hu]
  simp [part, h1, h]
theorem Val.field {x : Operand} {T : TypeId} {i off : Nat} {cs : Array Value} {v : Value} (hx : rev r x = some (.agg cs)) (hf : field1B P T i = some off) (hv : cs[off]? = some v) :
    Val P r W chg news { dst, op := .field T x i, type := ty, pos, after, guard := gd } v :=
  ⟨fun a w ha _ => by
    unfold field1B at hf
    split at hf
    · rename_i fs hfs
      split at hf
      · rename_i f hfi
        split at hf
        · rename_i d hd
          split at hf
          · cases hf
          · cases hf
            have hp := run_part1 (w := w) hd (by simpa using ‹¬ isAggD d = true›) hv
            simp [execOp, ha.eval hx, Instr.field, run_underlying hfs, hfi, asAgg, hp]
        · cases hf
      · cases hf
    · cases hf⟩
/-- A struct of two whole numbers. -/
def isIntD : TypeDesc → Bool
  | .int _ => true
  | _ => false
def pairB (P : Program) (T : TypeId) : Bool :=
  match P.underlying T with
  | some (.struct fs) => match fs[0]?, fs[1]?, fs[2]? with
    | some f, some g, none => f.name != "_" && g.name != "_" && f.offset == 0 && g.offset == 1 && (P.underlying f.type).any isIntD && (P.underlying g.type).any isIntD && !P.stoodInHeld T && !P.eqGuardType P.depth T
    | _, _, _ => false
  | _ => false
theorem any_int {o : Option TypeDesc} (h : o.any isIntD = true) : ∃ k, o = some (.int k) := by
  cases o with
  | none => simp at h
  | some d => cases d <;> simp [isIntD] at h; exact ⟨_, rfl⟩
theorem run_equal_int {w : World} {t : TypeId} {k k0 : IntKind} {x y : Int} (hu : P.underlying t = some (.int k0)) (m : Nat) : (Op.equalIn (m + 1) t (.int k x) (.int k y)).run P w = .ok (x == y) w := by
  simp [Op.equalIn, run_underlying hu]
theorem run_equal_pair {w : World} {T : TypeId} {k k' : IntKind} {x y z u : Int} (h : pairB P T = true) :
    (Op.equal T (.agg #[.int k x, .int k' y]) (.agg #[.int k z, .int k' u])).run P w = .ok (decide (x = z) && decide (y = u)) w := by
  unfold pairB at h
  split at h
  · rename_i fs hfs
    split at h
    · rename_i f g h0 h1 h2
      simp only [Bool.and_eq_true, bne_iff_ne, ne_eq, beq_iff_eq, Bool.not_eq_true'] at h
      obtain ⟨⟨⟨⟨⟨⟨⟨n1, n2⟩, o1⟩, o2⟩, i1⟩, i2⟩, hs⟩, hg⟩ := h
      obtain ⟨k1, hk1⟩ := any_int i1
      obtain ⟨k2, hk2⟩ := any_int i2
      have hl : fs = #[f, g] := by
        apply Array.ext_getElem?
        intro i
        match i with
        | 0 => simpa using h0
        | 1 => simpa using h1
        | i + 2 => rw [Array.getElem?_eq_none_iff] at h2; rw [Array.getElem?_eq_none (by omega)]; simp
      subst hl
      have p1 : ∀ a b, (part f.type #[.int k a, .int k' b] f.offset).run P w = .ok (.int k a) w := fun a b => run_part1 hk1 rfl (by rw [o1]; rfl)
      have p2 : ∀ a b, (part g.type #[.int k a, .int k' b] g.offset).run P w = .ok (.int k' b) w := fun a b => run_part1 hk2 rfl (by rw [o2]; rfl)
      have e1 : ∀ m, (Op.equalIn (m + 1) f.type (.int k x) (.int k z)).run P w = .ok (x == z) w := run_equal_int hk1
      have e2 : ∀ m, (Op.equalIn (m + 1) g.type (.int k' y) (.int k' u)).run P w = .ok (y == u) w := run_equal_int hk2
      have key : ∀ m, (Op.equalIn (m + 1 + 1) T (.agg #[.int k x, .int k' y]) (.agg #[.int k z, .int k' u])).run P w = .ok (decide (x = z) && decide (y = u)) w := by
        intro m
        rw [Op.equalIn]
        simp [run_underlying hfs, hs, n1, n2, p1, p2, e1, e2]
        by_cases hx : x = z
        · by_cases hy : y = u
          · simp [hx, hy, p1, p2, e1, e2]
          · simp [hx, hy, p1, p2, e1, e2]
        · simp [hx, p1, p2, e1, e2]
      exact key 9998
    · cases h
  · cases h
theorem pairB_guard {T : TypeId} (h : pairB P T = true) : P.eqGuardType P.depth T = false := by
  unfold pairB at h
  split at h
  · split at h
    · simp only [Bool.and_eq_true, Bool.not_eq_true'] at h; exact h.2
    · cases h
  · cases h
theorem Val.eql_pair {x y : Operand} {T yt : TypeId} {k k' : IntKind} {a b c e : Int} (hx : rev r x = some (.agg #[.int k a, .int k' b])) (hy : rev r y = some (.agg #[.int k c, .int k' e])) (h : pairB P T = true) :
    Val P r W chg news { dst, op := .binOp .eql T x y yt, type := ty, pos, after, guard := gd } (.bool (decide (a = c) && decide (b = e))) :=
  ⟨fun ac w ha _ => by
    have h1 := run_equal_pair (P := P) (w := w) (k := k) (k' := k') (x := a) (y := b) (z := c) (u := e) h
    simp [execOp, ha.eval hx, ha.eval hy, eqGuard, pairB_guard h, binOp, h1]⟩
theorem Val.neq_pair {x y : Operand} {T yt : TypeId} {k k' : IntKind} {a b c e : Int} (hx : rev r x = some (.agg #[.int k a, .int k' b])) (hy : rev r y = some (.agg #[.int k c, .int k' e])) (h : pairB P T = true) :
    Val P r W chg news { dst, op := .binOp .neq T x y yt, type := ty, pos, after, guard := gd } (.bool (!(decide (a = c) && decide (b = e)))) :=
  ⟨fun ac w ha _ => by
    have h1 := run_equal_pair (P := P) (w := w) (k := k) (k' := k') (x := a) (y := b) (z := c) (u := e) h
    simp [execOp, ha.eval hx, ha.eval hy, eqGuard, pairB_guard h, binOp, h1]⟩
/-! ### Unsigned numbers -/
theorem Val.shr {x y : Operand} {T yt : TypeId} {k k' : IntKind} {a b : Int} (hx : rev r x = some (.int k a)) (hy : rev r y = some (.int k' b)) (h0 : 0 ≤ a) (hb : 0 ≤ b) (hb' : b ≤ k.bits) :
    Val P r W chg news { dst, op := .binOp .shr T x y yt, type := ty, pos, after, guard := gd } (.int k (a / 2 ^ b.toNat)) :=
  ⟨fun ac w ha _ => by
    have h1 : ¬ b < 0 := by omega
    have h2 : Min.min b.toNat k.bits = b.toNat := Nat.min_eq_left (by omega)
    have h3 : (0:Int) ≤ 2 ^ b.toNat := Int.le_of_lt (Int.pow_pos (by omega))
    simp [execOp, ha.eval hx, ha.eval hy, eqGuard, binOp, Op.shift, h1, h2, Int.fdiv_eq_ediv_of_nonneg _ h3]⟩
theorem Val.shl {x y : Operand} {T yt : TypeId} {k k' : IntKind} {a b : Int} (hx : rev r x = some (.int k a)) (hy : rev r y = some (.int k' b)) (hb : 0 ≤ b) (hb' : b ≤ k.bits) (hr : k.wrap (a * 2 ^ b.toNat) = a * 2 ^ b.toNat) :
    Val P r W chg news { dst, op := .binOp .shl T x y yt, type := ty, pos, after, guard := gd } (.int k (a * 2 ^ b.toNat)) :=
  ⟨fun ac w ha _ => by
    have h1 : ¬ b < 0 := by omega
    have h2 : Min.min b.toNat k.bits = b.toNat := Nat.min_eq_left (by omega)
    simp [execOp, ha.eval hx, ha.eval hy, eqGuard, binOp, Op.shift, h1, h2, hr]⟩
theorem Val.and {x y : Operand} {T yt : TypeId} {k : IntKind} {a b : Nat} (hx : rev r x = some (.int k (a : Int))) (hy : rev r y = some (.int k (b : Int))) (ha' : a < 2 ^ k.bits) (hb' : b < 2 ^ k.bits) (hr : k.wrap ((a &&& b : Nat) : Int) = ((a &&& b : Nat) : Int)) :
    Val P r W chg news { dst, op := .binOp .and T x y yt, type := ty, pos, after, guard := gd } (.int k ((a &&& b : Nat) : Int)) :=
  ⟨fun ac w ha _ => by
    have e : ((BitVec.ofInt k.bits (a : Int)) &&& (BitVec.ofInt k.bits (b : Int))).toNat = a &&& b := by
      simp [BitVec.toNat_and, BitVec.ofInt_natCast, BitVec.toNat_ofNat, Nat.mod_eq_of_lt ha', Nat.mod_eq_of_lt hb']
    simp only [execOp, ha.eval hx, ha.eval hy, eqGuard, binOp, Op.intBits, e, hr]
    simp [hr]⟩
theorem Val.or {x y : Operand} {T yt : TypeId} {k : IntKind} {a b : Nat} (hx : rev r x = some (.int k (a : Int))) (hy : rev r y = some (.int k (b : Int))) (ha' : a < 2 ^ k.bits) (hb' : b < 2 ^ k.bits) (hr : k.wrap ((a ||| b : Nat) : Int) = ((a ||| b : Nat) : Int)) :
    Val P r W chg news { dst, op := .binOp .or T x y yt, type := ty, pos, after, guard := gd } (.int k ((a ||| b : Nat) : Int)) :=
  ⟨fun ac w ha _ => by
    have e : ((BitVec.ofInt k.bits (a : Int)) ||| (BitVec.ofInt k.bits (b : Int))).toNat = a ||| b := by
      simp [BitVec.toNat_or, BitVec.ofInt_natCast, BitVec.toNat_ofNat, Nat.mod_eq_of_lt ha', Nat.mod_eq_of_lt hb']
    simp only [execOp, ha.eval hx, ha.eval hy, eqGuard, binOp, Op.intBits, e, hr]
    simp [hr]⟩
theorem Val.shrN {x y : Operand} {T yt : TypeId} {k k' : IntKind} {a b : Nat} (hx : rev r x = some (.int k (a : Int))) (hy : rev r y = some (.int k' (b : Int))) (hb' : b ≤ k.bits) :
    Val P r W chg news { dst, op := .binOp .shr T x y yt, type := ty, pos, after, guard := gd } (.int k ((a >>> b : Nat) : Int)) := by
  have h := Val.shr (P := P) (W := W) (chg := chg) (news := news) (dst := dst) (ty := ty) (pos := pos) (after := after) (gd := gd) (T := T) (yt := yt) hx hy (Int.natCast_nonneg a) (Int.natCast_nonneg b) (by exact_mod_cast hb')
  have e : (a : Int) / 2 ^ ((b : Int).toNat) = ((a >>> b : Nat) : Int) := by rw [Nat.shiftRight_eq_div_pow]; simp
  rw [e] at h
  exact h
theorem Val.shl1 {x y : Operand} {T yt : TypeId} {k k' : IntKind} {b : Nat} (hx : rev r x = some (.int k 1)) (hy : rev r y = some (.int k' (b : Int))) (hb' : b ≤ k.bits) (hr : k.wrap ((2 ^ b : Nat) : Int) = ((2 ^ b : Nat) : Int)) :
    Val P r W chg news { dst, op := .binOp .shl T x y yt, type := ty, pos, after, guard := gd } (.int k ((2 ^ b : Nat) : Int)) := by
  have e : (1 : Int) * 2 ^ ((b : Int).toNat) = ((2 ^ b : Nat) : Int) := by simp
  have h := Val.shl (P := P) (W := W) (chg := chg) (news := news) (dst := dst) (ty := ty) (pos := pos) (after := after) (gd := gd) (T := T) (yt := yt) hx hy (Int.natCast_nonneg b) (by exact_mod_cast hb') (by rw [e]; exact hr)
  rw [e] at h
  exact h
theorem Val.addN {x y : Operand} {T yt : TypeId} {k : IntKind} {a b : Nat} (c : Nat) (hx : rev r x = some (.int k (a : Int))) (hy : rev r y = some (.int k (b : Int))) (hc : a + b = c) (hr : k.wrap (c : Int) = (c : Int)) :
    Val P r W chg news { dst, op := .binOp .add T x y yt, type := ty, pos, after, guard := gd } (.int k (c : Int)) := by
  have e : (a : Int) + (b : Int) = (c : Int) := by rw [← hc]; simp
  have h := Val.add (P := P) (W := W) (chg := chg) (news := news) (dst := dst) (ty := ty) (pos := pos) (after := after) (gd := gd) (T := T) (yt := yt) hx hy (by rw [e]; exact hr)
  rw [e] at h
  exact h
theorem u64_in {n : Nat} (h : n < 18446744073709551616) : IntKind.u64.wrap (n : Int) = (n : Int) := by
  have h1 := IntWalk.u64_in (n : Int) ⟨by omega, by omega⟩
  exact h1
theorem i64_inN {n : Nat} (h : n < 9223372036854775808) : IntKind.i64.wrap (n : Int) = (n : Int) := IntWalk.i64_in _ ⟨by omega, by omega⟩
/-! ### A guard whose answer is known -/
theorem RunL.sure {ops : Array Oper} {Q : Exit → Act → World → Prop} {n : Nat} {ds : List Deferred} {l : List Oper} {b : Bool} {dj : Nat} (b0 : Bool) (hj : rget r dj = some (.bool b)) (hb : b = b0) (h : RunL P ops Q n l ((dj, .bool b0) :: r) ds W chg news) : RunL P ops Q n l r ds W chg news := fun a w s => h a w (s.know hj (by rw [hb]))
theorem RunA.sure {ops : Array Oper} {Q : Exit → Act → World → Prop} {n : Nat} {ds : List Deferred} {k fuel : Nat} {listed : Array Bool} {cp : Blks → Prop} {news0 : Blks} {b : Bool} {dj : Nat} (b0 : Bool) (hj : rget r dj = some (.bool b)) (hb : b = b0) (h : RunA P ops Q k cp news0 n fuel listed ((dj, .bool b0) :: r) ds W chg news) :
    RunA P ops Q k cp news0 n fuel listed r ds W chg news := fun a w s hcl => h a w (s.know hj (by rw [hb])) hcl
theorem RunB.sure {ops : Array Oper} {Q : Exit → Act → World → Prop} {n : Nat} {ds : List Deferred} {fuel : Nat} {listed : Array Bool} {b : Bool} {dj : Nat} (b0 : Bool) (hj : rget r dj = some (.bool b)) (hb : b = b0) (h : RunB P ops Q n fuel listed ((dj, .bool b0) :: r) ds W chg news) :
    RunB P ops Q n fuel listed r ds W chg news := fun a w s => h a w (s.know hj (by rw [hb]))
/-! ### A slice in a block that is known whole -/
theorem flat_get {sz : Nat} : ∀ (xs : List (List Value)) (i : Nat) (hi : i < xs.length) (j : Nat), (∀ x ∈ xs, x.length = sz) → j < sz → xs.flatten[i * sz + j]? = xs[i][j]?
  | [], i, hi, _, _, _ => by simp at hi
  | x :: xs, 0, _, j, hl, hj => by
    have := hl x (by simp)
    simp only [List.flatten_cons, Nat.zero_mul, Nat.zero_add, List.getElem_cons_zero]
    exact List.getElem?_append_left (by omega)
  | x :: xs, i + 1, hi, j, hl, hj => by
    have h0 := hl x (by simp)
    have ih := flat_get xs i (by simpa using hi) j (fun y hy => hl y (by simp [hy])) hj
    simp only [List.flatten_cons, List.getElem_cons_succ]
    rw [List.getElem?_append_right (by rw [h0, Nat.add_mul]; omega), h0, show (i + 1) * sz + j - sz = i * sz + j by rw [Nat.add_mul]; omega]
    exact ih
theorem Sl.rows {w : World} {b : Nat} {T : TypeId} {fr : Nat × Nat} {sz : Nat} {xs : List (List Value)} (h : w.heap[b]? = some (.cells xs.flatten.toArray T fr)) (hl : ∀ x ∈ xs, x.length = sz) : Sl w (some ⟨b, 0, none⟩) b 0 sz xs :=
  ⟨fun _ => rfl, hl, fun i hi j hj => by
    rw [cell_of_cells h, ← flat_get xs i hi j hl hj]
    simp⟩
end
end Go.Eng
