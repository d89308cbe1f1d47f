/- The engine: more facts on one operation; ways that meet again behind a piece of code. No program is in sight. -/
import Derived.Test.YthoheicppmbepaaOwn
namespace Go.Eng
open Go Go.RowKit

section
variable {P : Program} {r : Regs} {W : World} {chg news : Blks}
variable {ty : TypeId} {pos : String} {after : Array Edge} {dst : Option Tmp} {gd : Option (Nat × Bool)}
/-- All of a but what is b's. -/
def andN (a b : Nat) : Nat := a ^^^ (a &&& b)
theorem andN_bit (a b i : Nat) : (andN a b).testBit i = (a.testBit i && !b.testBit i) := by
  unfold andN
  rw [Nat.testBit_xor, Nat.testBit_and]
  cases a.testBit i <;> cases b.testBit i <;> rfl
theorem andN_le (a b : Nat) : andN a b ≤ a := by
  have : andN a b &&& a = andN a b := by
    apply Nat.eq_of_testBit_eq
    intro i
    rw [Nat.testBit_and, andN_bit]
    cases a.testBit i <;> cases b.testBit i <;> rfl
  rw [← this]
  exact Nat.and_le_right
theorem Val.andNot {x y : Operand} {T yt : TypeId} {k : IntKind} {a b : Nat} (hx : rev r x = some (.int k (a : Int))) (hy : rev r y = some (.int k (b : Int))) (ha' : a < 2 ^ k.bits) (hb' : b < 2 ^ k.bits) (hr : k.wrap ((andN a b : Nat) : Int) = ((andN a b : Nat) : Int)) :
    Val P r W chg news { dst, op := .binOp .andNot T x y yt, type := ty, pos, after, guard := gd } (.int k ((andN a b : Nat) : Int)) :=
  ⟨fun ac w ha _ => by
    have e : ((BitVec.ofInt k.bits (a : Int)) &&& ~~~(BitVec.ofInt k.bits (b : Int))).toNat = andN a b := by
      apply Nat.eq_of_testBit_eq
      intro i
      rw [andN_bit]
      simp only [BitVec.testBit_toNat, BitVec.getLsbD_and, BitVec.getLsbD_not, BitVec.ofInt_natCast, BitVec.getLsbD_ofNat]
      by_cases hi : i < k.bits
      · simp [hi]
      · have : a.testBit i = false := Nat.testBit_lt_two_pow (Nat.lt_of_lt_of_le ha' (Nat.pow_le_pow_right (by omega) (by omega)))
        simp [this]
    simp only [execOp, ha.eval hx, ha.eval hy, eqGuard, binOp, Op.intBits, e, hr]
    simp [hr]⟩
theorem Val.remN {x y : Operand} {T yt : TypeId} {k : IntKind} {a b : Nat} (hx : rev r x = some (.int k (a : Int))) (hy : rev r y = some (.int k (b : Int))) (hb : 0 < b) :
    Val P r W chg news { dst, op := .binOp .rem T x y yt, type := ty, pos, after, guard := gd } (.int k ((a % b : Nat) : Int)) := by
  have h := Val.rem (P := P) (W := W) (chg := chg) (news := news) (dst := dst) (ty := ty) (pos := pos) (after := after) (gd := gd) (T := T) (yt := yt) hx hy (Int.natCast_nonneg a) (by exact_mod_cast hb)
  rw [Int.natCast_emod]
  exact h
theorem Val.quoN {x y : Operand} {T yt : TypeId} {k : IntKind} {a b : Nat} (hx : rev r x = some (.int k (a : Int))) (hy : rev r y = some (.int k (b : Int))) (hb : 0 < b) (hr : k.wrap ((a / b : Nat) : Int) = ((a / b : Nat) : Int)) :
    Val P r W chg news { dst, op := .binOp .quo T x y yt, type := ty, pos, after, guard := gd } (.int k ((a / b : Nat) : Int)) := by
  rw [Int.natCast_ediv] at hr ⊢
  exact Val.quo (P := P) (W := W) (chg := chg) (news := news) (dst := dst) (ty := ty) (pos := pos) (after := after) (gd := gd) (T := T) (yt := yt) hx hy (Int.natCast_nonneg a) (by exact_mod_cast hb) hr
theorem Val.subN {x y : Operand} {T yt : TypeId} {k : IntKind} {a b : Nat} (c : Nat) (hx : rev r x = some (.int k (a : Int))) (hy : rev r y = some (.int k (b : Int))) (hc : c + b = a) (hr : k.wrap (c : Int) = (c : Int)) :
    Val P r W chg news { dst, op := .binOp .sub T x y yt, type := ty, pos, after, guard := gd } (.int k (c : Int)) := by
  have e : (a : Int) - (b : Int) = (c : Int) := by rw [← hc]; simp
  have h := Val.sub' (P := P) (W := W) (chg := chg) (news := news) (dst := dst) (ty := ty) (pos := pos) (after := after) (gd := gd) (T := T) (yt := yt) hx hy (by rw [e]; exact hr)
  rw [e] at h
  exact h
end

section
variable {P : Program} {ops : Array Oper} {Q : Exit → Act → World → Prop} {n : Nat} {r : Regs} {ds : List Deferred} {W : World} {chg news : Blks}
/-- Whichever way code goes, it comes to one of some states. -/
def MeetP {X : Type} (n : Nat) (ds : List Deferred) (W : World) (R : X → Regs) (C Nw : X → Blks) (Inv : X → Prop) (a : Act) (w : World) : Prop := ∃ x, Inv x ∧ St n (R x) ds W (C x) (Nw x) a w
theorem RunC.seqJ {X : Type} {c1 c2 : Code} {q : Regs} (n0 : Blks) (R : X → Regs → Regs) (C V T : X → Blks) (Inv : X → Prop) (_hs : Sub q r) (_hn : Pick n0 news)
    (h : RunC P (Exit.then (MeetP n ds W (fun x => R x q) C (fun x => V x ++ (n0 ++ T x)) Inv) Q) n c1 r ds W chg news)
    (h2 : ∀ x, Inv x → RunC P Q n c2 (R x q) ds W (C x) (V x ++ (n0 ++ T x))) : RunC P Q n (.seq c1 c2) r ds W chg news := fun a w s =>
  wp_seq (Code.wp_mono (fun e a' w' he => by
    cases e with
    | normal => obtain ⟨x, hi, sx⟩ := he; exact h2 x hi a' w' sx
    | exit id => exact he
    | goto l => exact he
    | ret => exact he
    | panic c => exact he
    | outgrown => exact he) (h a w s))
theorem RunE.meet {X : Type} {R : X → Regs} {C Nw : X → Blks} {Inv : X → Prop} (x : X) (hi : Inv x) (hc : chg = C x) (hs : Sub (R x) r) (hn : Pick (Nw x) news) : RunE (Exit.then (MeetP n ds W R C Nw Inv) Q) n .normal r ds W chg news := fun _ _ s =>
  ⟨x, hi, by subst hc; exact s.pick hs hn⟩
theorem Mem.perm {W w : World} {chg news news' : Blks} (h : Mem W chg news w) (hp : news.Perm news') : Mem W chg news' w :=
  { h with
    newd := fun b o hb => h.newd b o (hp.mem_iff.2 hb)
    once := by
      have h1 := h.once
      exact (List.Perm.nodup_iff ((hp.append_left chg).map _)).1 h1 }
/-- A call that makes blocks; they are told of last. -/
theorem RunL.callNT {rest : List Oper} {d : Nat} {β : Type} {o : Oper} {f : FuncId} {args : Array Value} {v : β → Value} {nw : β → Blks} (hi : IsCall P r o f args) (hg : guardB ops r o.guard = some true) (hd : o.dst = some d) (hn : Nat.ble (d + 1) n = true)
    (hc : ∀ w, Mem W chg news w → Calls P f args w (News v nw w)) (h : ∀ b, RunL P ops Q n rest ((d, v b) :: r) ds W chg (news ++ nw b)) : RunL P ops Q n (o :: rest) r ds W chg news :=
  RunL.call hg hd (fun a w s => hi.runs a w s.agree) hc (fun a w e w' s hR => by
    obtain ⟨b, rfl, hm⟩ := hR
    have s2 := s.put (Nat.le_of_ble_eq_true hn) (v b)
    exact h b _ _ ⟨s2.size, s2.agree, s2.defers, (s.mem.trans hm).perm List.perm_append_comm⟩)
/-- Part of one row of some. -/
theorem Sl.subX {α : Type} {f : α → List Value} {w : World} {T : TypeId} {p : Option Addr} {b o sz s2 : Nat} {l : List α} (h : Sl W p b o sz (l.map f)) (hz : 0 < sz) (hm : Mem W chg news w) (hc : ∀ ob, (b, ob) ∉ chg) (hT : tyB P T = some (true, s2)) {i : Nat} (hi : i < l.length) {x : α} (hx : l[i] = x) {j off : Nat} (hj : j + s2 ≤ sz) {vs : List Value} (hv : grab (f x) j s2 = some vs) (ho : off = o + i * sz + j) :
    (loadVar T ⟨b, off, none⟩).run P w = .ok (.agg vs.toArray) w := by
  subst hx ho
  have hi' : i < (l.map f).length := by simpa using hi
  obtain ⟨g1, g2⟩ := grab_spec hv
  refine run_loadVar_agg (by rw [g1]; exact hT) (fun m hmm => ?_)
  rw [add_plain, hm.cell (p := ⟨b, _, none⟩) (h.lt hz hi') hc]
  have h1 := h.cell i hi' (j + m) (by omega)
  rw [show o + i * sz + j + m = o + i * sz + (j + m) by omega, h1]
  have h2 := g2 m (by omega)
  rw [List.getElem?_eq_getElem hmm] at h2
  simpa using h2
theorem paste_rowE {α : Type} {f : α → List Value} {sz : Nat} (hf : ∀ a, (f a).length = sz) {a' : α} {j off : Nat} {vs t : List Value} {l : List α} {i : Nat} (hi : i < l.length) {a : α} (ha : l[i] = a) (ho : off = i * sz + j) (h : paste (f a) j vs = some (f a')) : paste ((l.map f).flatten ++ t) off vs = some (((l.set i a').map f).flatten ++ t) := by
  subst ho ha
  exact paste_row hf hi h
end
end Go.Eng
