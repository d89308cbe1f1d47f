/- The engine inside a round of a range over a function: all of its judgements there; ranges whose variables are laid in blocks, ranges in rounds, rounds that break off or return; functions that hold several. No program is in sight. -/
import Derived.Test.YtlhdalcipflblaaDoorEngB
import Derived.RangeFuncNested
import Derived.OrdersIn
import Derived.ChangeKeysEq
import Derived.Maps.RangeRun
import Derived.Lib.Bytealg
import Derived.Laws.BytesString
import Derived.Laws.Strings
import Derived.Laws.Cells
import Derived.Laws.MakeOwn
namespace Go.Eng
open Go Go.RowKit

theorem wpIn_scope_straight {F : Fence} {n : Nat} {P : Program} {Q : Exit → Act → World → Prop} {a : Act} {w : World} {c : Code} (h : c.wpIn F n P (Exit.noGoto Q) a w) : (Code.scope c).wpIn F n P Q a w := by
  intro b k cs hro hb hr
  have st1 : ∀ a w k, step P (lone (b.atR a (.code (.scope c) :: k)) cs w) = .next (lone (b.atR a (.code c :: .inScope c :: k)) cs w) := fun a w k => step_lone_go (by simp [stepG, stepG.exec, Frame.atR])
  have st2 : ∀ a w k, step P (lone (b.atR a (.inScope c :: k)) cs w) = .next (lone (b.atR a k) cs w) := fun a w k => step_lone_go (by simp [stepG, stepG.exec, Frame.atR])
  have h0 : (lone (b.atR a (.code (.scope c) :: k)) cs w).fenced P F := fenced_calm hb hr rfl
  obtain ⟨e, a₁, w₁, hq, harr⟩ := h b (.inScope c :: k) cs hro hb hr
  cases e with
  | normal => exact ⟨.normal, a₁, w₁, hq, .head h0 (st1 _ _ _) (StepsIn.trans harr (.one (fenced_calm hb hr rfl) (st2 _ _ _)))⟩
  | exit id =>
    have hx : exitTo id (.inScope c :: k) = exitTo id k := by simp [exitTo]
    exact ⟨.exit id, a₁, w₁, hq, fun k' hk => .head h0 (st1 _ _ _) (harr.1 k' (by rw [hx]; exact hk)), fun hr' hk => let ⟨k₁, h1, h2⟩ := harr.2 hr' (by rw [hx]; exact hk); ⟨k₁, h1, .head h0 (st1 _ _ _) h2⟩⟩
  | goto l => exact hq.elim
  | ret => exact ⟨_, a₁, w₁, hq, .of_steps (.one h0 (st1 _ _ _)) harr⟩
  | panic ch => exact ⟨_, a₁, w₁, hq, .of_steps (.one h0 (st1 _ _ _)) harr⟩
  | outgrown => exact ⟨_, a₁, w₁, hq, .of_steps (.one h0 (st1 _ _ _)) harr⟩

section
variable {ro : Option Nat} {P : Program} {ops : Array Oper} {Q : Exit → Act → World → Prop} {n : Nat} {r : Regs} {ds : List Deferred} {W : World} {chg news : Blks} {rest : List Oper}

/-! ### What holds of a region outside of rounds holds inside -/
def noDefers (ops : Array Oper) : Bool := ops.toList.all notDefer
theorem rows_in {row : String} {args : Array Value} {w : World} {R : Value → World → Prop} {m : Nat} (h : Rows P row args w R) : RowsIn (Fr ro) m P row args w R := fun c cs _ =>
  let ⟨v, w', hR, s⟩ := h c cs
  ⟨v, w', hR, by
    have e : Machine.fenced P (Fr ro) = Machine.fenced P Fence.wide := by cases ro <;> rfl
    rw [e]; exact stepsIn_wide.2 s⟩
theorem calls_in {f : FuncId} {args : Array Value} {w : World} {R : Ending → World → Prop} {m : Nat} (h : Calls P f args w R) : CallsIn (Fr ro) m P f args w R := by
  have h2 : CallsIn Fence.wide m P f args w R := callsIn_wide.2 h
  cases ro with
  | none => exact h2
  | some l => exact CallsIn.inRound l h2
theorem upon_in {o : Oper} {a : Act} {K : Act → World → Prop} {x : Result Next} (h : o.upon P a K Q x) : o.uponIn (Fr ro) 9 P a K Q x := by
  cases x with
  | ok nx w' =>
    cases nx <;> simp only [Oper.upon, Oper.uponIn] at h ⊢ <;>
      first
        | exact h
        | exact ⟨fun h => (by cases h), (calls_in h).mono (fun e w'' he => by cases e <;> exact he)⟩
        | exact ⟨fun h => (by cases h), rows_in h⟩
  | halt x w' => cases x <;> simp only [Oper.upon, Oper.uponIn] at h ⊢ <;> exact h
theorem oper_in {o : Oper} {a : Act} {w : World} {K : Act → World → Prop} (hnd : notDefer o = true) (hlo : LetsOut Q → False) (h : o.wp P a w K Q ∨ (o.asks P a w ∧ LetsOut Q)) : o.wpIn (Fr ro) 9 P a w K Q := by
  rcases h with h | h
  · refine ⟨fun _ _ => trivial, ?_⟩
    rw [Oper.semAt_eq _ _ _ (notDefer_spec hnd)]
    exact upon_in h
  · exact (hlo h.2).elim
theorem list_in (hlo : LetsOut Q → False) : ∀ (l : List Oper) (a : Act) (w : World), l.all notDefer = true → wpList P ops Q l a w → wpListIn (Fr ro) 9 P ops Q l a w
  | [], _, _, _, h => h
  | o :: l, a, w, hn, h => by
    simp only [List.all_cons, Bool.and_eq_true] at hn
    simp only [wpList, wpListIn] at h ⊢
    split
    · rename_i hw
      rw [if_pos hw] at h
      exact oper_in hn.1 hlo (h.imp (Oper.wp_mono (fun a w h => list_in hlo l a w hn.2 h)) id)
    · rename_i hw
      rw [if_neg hw] at h
      exact ⟨fun _ _ => trivial, list_in hlo l _ _ hn.2 h⟩
theorem op_in {i : Nat} {K K' : Act → World → Prop} {a : Act} {w : World} (hn : noDefers ops = true) (hlo : LetsOut Q → False) (hK : ∀ a w, K a w → K' a w) (h : wpOp P ops Q i K a w) : wpOpIn (Fr ro) 9 P ops Q i K' a w := by
  unfold wpOp at h
  unfold wpOpIn
  cases ho : ops[i]? with
  | none => simp only [ho] at h ⊢; exact hK _ _ h
  | some o =>
    simp only [ho] at h ⊢
    have hnd : notDefer o = true := List.all_eq_true.1 hn o (by
      obtain ⟨h1, h2⟩ := Array.getElem?_eq_some_iff.1 ho
      rw [← h2]; exact Array.mem_toList_iff.2 (Array.getElem_mem h1))
    split
    · rename_i hw
      rw [if_pos hw] at h
      exact oper_in hnd hlo (h.imp (Oper.wp_mono hK) id)
    · rename_i hw
      rw [if_neg hw] at h
      exact ⟨fun _ _ => trivial, hK _ _ h⟩
theorem any_in (hn : noDefers ops = true) (hlo : LetsOut Q → False) : ∀ (fuel : Nat) (listed : Array Bool) (a : Act) (w : World), wpAny P .any ops Q fuel listed a w → wpAnyIn (Fr ro) 9 P .any ops Q fuel listed a w
  | 0, _, _, _, h => h
  | fuel + 1, _, _, _, h => ⟨h.1, fun i hi => op_in hn hlo (fun a' w' h' => any_in hn hlo fuel _ a' w' h') (h.2 i hi)⟩
theorem lets_no {Q : Exit → Act → World → Prop} (h : ∀ a w, Q .outgrown a w → False) : LetsOut Q → False := fun ⟨a, w, hq⟩ => h a w hq

theorem RunCR.regionP {id : Nat} {l : List Oper} (h : RunL P l.toArray Q n l r ds W chg news) (hnd : l.all notDefer = true := by rfl) (hlo : ∀ a w, Q .outgrown a w → False := by exact fun _ _ h => h) : RunCR ro P Q n (.region id l.toArray false) r ds W chg news := fun a w s =>
  wpIn_region_lit (list_in (lets_no hlo) l a w hnd (h a w s))
theorem RunCR.draw {id : Nat} {l : List Oper} {news0 : Blks} (k : Nat) (hm : P.follows .mixedOrders = true) (_hp : Pick news0 news) (h : RunA P l.toArray Q k (fun c => c = chg) news0 n l.toArray.size (Array.replicate l.toArray.size false) r ds W chg news) (hnd : noDefers l.toArray = true := by rfl) (hlo : ∀ a w, Q .outgrown a w → False := by exact fun _ _ h => h) : RunCR ro P Q n (.region id l.toArray true) r ds W chg news := fun a _ s =>
  wpIn_region_any hm (any_in hnd (lets_no hlo) _ _ _ _ (wpAny_of_T _ _ _ _ (h a _ s.drew Closed.start)))
theorem RunCR.drawK {id : Nat} {l : List Oper} {news0 : Blks} (k : Nat) (hm : P.follows .mixedOrders = true) (_hp : Pick news0 news) (h : RunA P l.toArray Q k (fun c => c.map (·.1) = chg.map (·.1)) news0 n l.toArray.size (Array.replicate l.toArray.size false) r ds W chg news) (hnd : noDefers l.toArray = true := by rfl) (hlo : ∀ a w, Q .outgrown a w → False := by exact fun _ _ h => h) : RunCR ro P Q n (.region id l.toArray true) r ds W chg news := fun a _ s =>
  wpIn_region_any hm (any_in hnd (lets_no hlo) _ _ _ _ (wpAny_of_T _ _ _ _ (h a _ s.drew Closed.start)))
theorem RunCR.drawJ {id : Nat} {l : List Oper} {news0 : Blks} {J : Act → World → Prop} (k : Nat) (hm : P.follows .mixedOrders = true) (_hp : Pick news0 news) (h : RunA P l.toArray (SegQ Q J) k (fun c => c = chg) news0 n l.toArray.size (Array.replicate l.toArray.size false) r ds W chg news) (h2 : ∀ a w, J a w → Q .normal a w) (hnd : noDefers l.toArray = true := by rfl) (hlo : ∀ a w, Q .outgrown a w → False := by exact fun _ _ h => h) :
    RunCR ro P Q n (.region id l.toArray true) r ds W chg news := fun a _ s =>
  Go.wpIn_mono (wpIn_region_any hm (any_in (Q := SegQ Q J) hnd (lets_no (Q := SegQ Q J) (fun a w hq => hlo a w hq)) _ _ _ _ (wpAny_of_T _ _ _ _ (h a _ s.drew Closed.start)))) (fun e a w hq => by cases e <;> first | exact h2 a w hq | exact hq)
theorem RunCR.drawX {X : Type} {id : Nat} {l : List Oper} {news0 : Blks} {q : Regs} (k : Nat) (n0 : Blks) (R : X → Regs → Regs) (C V T : X → Blks) (Inv : X → Prop) (hm : P.follows .mixedOrders = true) (hp : Pick news0 news) (_hs : Sub q r) (_hn : Pick n0 news)
    (h : RunA P l.toArray (SegQ Q (MeetP n ds W (fun x => R x q) C (fun x => V x ++ (n0 ++ T x)) Inv)) k (fun c => c = chg) news0 n l.toArray.size (Array.replicate l.toArray.size false) r ds W chg news)
    (h2 : ∀ x, Inv x → RunE Q n .normal (R x q) ds W (C x) (V x ++ (n0 ++ T x))) (hnd : noDefers l.toArray = true := by rfl) (hlo : ∀ a w, Q .outgrown a w → False := by exact fun _ _ h => h) : RunCR ro P Q n (.region id l.toArray true) r ds W chg news :=
  RunCR.drawJ k hm hp h (fun a w hj => by
    obtain ⟨x, hi, sx⟩ := hj
    exact h2 x hi a w sx) hnd hlo
theorem RunCR.scope {c : Code} (h : RunCR ro P (Exit.noGoto Q) n c r ds W chg news) : RunCR ro P Q n (.scope c) r ds W chg news := fun a w s => wpIn_scope_straight (h a w s)
theorem RunCR.label {l : Nat} (h : RunE Q n .normal r ds W chg news) : RunCR ro P Q n (.label l) r ds W chg news := fun a w s => wpIn_label (h a w s)
theorem RunCR.cond_true {c : Operand} {x y : Code} (hc : rev r c = some (.bool true)) (ht : RunCR ro P Q n x r ds W chg news) : RunCR ro P Q n (.cond c x y) r ds W chg news :=
  RunCR.cond hc (fun _ => ht) (fun h => by cases h)
theorem RunCR.cond_false {c : Operand} {x y : Code} (hc : rev r c = some (.bool false)) (hf : RunCR ro P Q n y r ds W chg news) : RunCR ro P Q n (.cond c x y) r ds W chg news :=
  RunCR.cond hc (fun h => by cases h) (fun _ => hf)
theorem RunCR.keep {c : Code} {q : Regs} {news' : Blks} (hs : Sub q r) (hn : Pick news' news) (h : RunCR ro P Q n c q ds W chg news') : RunCR ro P Q n c r ds W chg news := fun a w s => h a w (s.pick hs hn)
theorem RunCR.unroll {body : Code} (k : Nat) (h : RunCR ro P (Exit.then (Code.roundsIn (Fr ro) 9 P body Q k) Q) n body r ds W chg news) : RunCR ro P Q n (.loop body) r ds W chg news := fun a w s => wpIn_loop_rounds (k + 1) (h a w s)
theorem RunER.rounds {body : Code} {k : Nat} (h : RunCR ro P (Exit.then (Code.roundsIn (Fr ro) 9 P body Q k) Q) n body r ds W chg news) : RunE (Exit.then (Code.roundsIn (Fr ro) 9 P body Q (k + 1)) Q) n .normal r ds W chg news := fun a w s => h a w s
theorem RunCR.loopK {body : Code} {q : Regs} {n0 : Blks} (N : Nat) (R : Nat → Regs → Regs) (C V : Nat → Blks) (Inv : Nat → Prop) (h0 : Inv 0) (hc : chg = C 0) (hs : Sub (R 0 q) r) (hn : Pick (V 0 ++ n0) news)
    (hb : ∀ k, k ≤ N → Inv k → RunCR ro P (Exit.then (Round n ds W C N Inv (fun k => R k q) (fun k => V k ++ n0) k) Q) n body (R k q) ds W (C k) (V k ++ n0)) : RunCR ro P Q n (.loop body) r ds W chg news := by
  have key : ∀ (m k : Nat), N - k < m → k ≤ N → Inv k → ∀ a w, St n (R k q) ds W (C k) (V k ++ n0) a w → Code.roundsIn (Fr ro) 9 P body Q m a w := by
    intro m
    induction m with
    | zero => intro k h; omega
    | succ m ih =>
      intro k hk hN hi a w s
      rw [roundsIn_succ]
      refine Go.wpIn_mono (hb k hN hi a w s) ?_
      rintro e a2 w2 hq
      cases e with
      | normal =>
        obtain ⟨k', h1, h2, h3, s2⟩ := hq
        exact ih k' (by omega) h2 h3 a2 w2 s2
      | exit id => exact hq
      | goto l => exact hq
      | ret => exact hq
      | panic c => exact hq
      | outgrown => exact hq
  intro a w s
  subst hc
  exact wpIn_loop_rounds _ (key _ 0 (Nat.lt_succ_self _) (Nat.zero_le _) h0 a w (s.pick hs hn))
theorem RunCR.loopX {X : Type} {body : Code} {q : Regs} (n0 : Blks) (N : Nat) (R : Nat → X → Regs → Regs) (C V T : Nat → X → Blks) (Inv : Nat → X → Prop) (x0 : X) (h0 : Inv 0 x0) (hc : chg = C 0 x0) (hs : Sub (R 0 x0 q) r) (hn : Pick (V 0 x0 ++ (n0 ++ T 0 x0)) news)
    (hb : ∀ k x, k ≤ N → Inv k x → RunCR ro P (Exit.then (RoundX n ds W C N Inv (fun k x => R k x q) (fun k x => V k x ++ (n0 ++ T k x)) k) Q) n body (R k x q) ds W (C k x) (V k x ++ (n0 ++ T k x))) : RunCR ro P Q n (.loop body) r ds W chg news := by
  have key : ∀ (m k : Nat) (x : X), N - k < m → k ≤ N → Inv k x → ∀ a w, St n (R k x q) ds W (C k x) (V k x ++ (n0 ++ T k x)) a w → Code.roundsIn (Fr ro) 9 P body Q m a w := by
    intro m
    induction m with
    | zero => intro k x h; omega
    | succ m ih =>
      intro k x hk hN hi a w s
      rw [roundsIn_succ]
      refine Go.wpIn_mono (hb k x hN hi a w s) ?_
      rintro e a2 w2 hq
      cases e with
      | normal =>
        obtain ⟨k', x', h1, h2, h3, s2⟩ := hq
        exact ih k' x' (by omega) h2 h3 a2 w2 s2
      | exit id => exact hq
      | goto l => exact hq
      | ret => exact hq
      | panic c => exact hq
      | outgrown => exact hq
  intro a w s
  subst hc
  exact wpIn_loop_rounds _ (key _ 0 x0 (Nat.lt_succ_self _) (Nat.zero_le _) h0 a w (s.pick hs hn))
theorem RunCR.seqJ {X : Type} {c1 c2 : Code} {q : Regs} (n0 : Blks) (R : X → Regs → Regs) (C V T : X → Blks) (Inv : X → Prop) (_hs : Sub q r) (_hn : Pick n0 news)
    (h : RunCR ro P (Exit.then (MeetP n ds W (fun x => R x q) C (fun x => V x ++ (n0 ++ T x)) Inv) Q) n c1 r ds W chg news)
    (h2 : ∀ x, Inv x → RunCR ro P Q n c2 (R x q) ds W (C x) (V x ++ (n0 ++ T x))) : RunCR ro P Q n (.seq c1 c2) r ds W chg news := fun a w s =>
  wpIn_seq (Go.wpIn_mono (h a w s) (fun e a' w' he => by
    cases e with
    | normal => obtain ⟨x, hi, sx⟩ := he; exact h2 x hi a' w' sx
    | exit id => exact he
    | goto l => exact he
    | ret => exact he
    | panic c => exact he
    | outgrown => exact he))
end

/-! ### Ranges -/
section
variable {ro : Option Nat} {P : Program} {ops : Array Oper} {Q : Exit → Act → World → Prop} {n : Nat} {r : Regs} {ds : List Deferred} {W : World} {chg news : Blks} {rest : List Oper}

/-- The registers behind the parameters of a round. -/
def putsR : List Nat → List Value → Regs → Regs
  | p :: ps, v :: vs, r => putsR ps vs ((p, v) :: r)
  | _, _, r => r
theorem putsR_agree : ∀ (ps : List Nat) (vs : List Value) (t : Array Value) (r : Regs), (∀ p ∈ ps, p < t.size) → (∀ u v, rget r u = some v → t[u]? = some v) →
    (∀ u v, rget (putsR ps vs r) u = some v → ((ps.zip vs).foldl (fun t (pv : Nat × Value) => t.setIfInBounds pv.1 pv.2) t)[u]? = some v) ∧ ((ps.zip vs).foldl (fun t (pv : Nat × Value) => t.setIfInBounds pv.1 pv.2) t).size = t.size
  | [], vs, t, r, _, h => by simpa [putsR] using h
  | p :: ps, [], t, r, _, h => by simpa [putsR] using h
  | p :: ps, v :: vs, t, r, hp, h => by
    have h1 := putsR_agree ps vs (t.setIfInBounds p v) ((p, v) :: r) (fun q hq => by rw [Array.size_setIfInBounds]; exact hp q (by simp [hq])) (fun u x hu => by
      have ha : Agree { tmps := t, defers := [] } r := h
      have := ha.put (d := p) (v := v) (hp p (by simp)) u x hu
      simpa [Act.put] using this)
    simpa [putsR] using h1
/-- Where the record of a round's loop lies, and that it is none of the blocks that turn. -/
structure InR (l : Nat) (W : World) (nm : List Nat) : Prop where
  rec' : ∃ x, W.heap[l]? = some (.loop x)
  notin : l ∉ nm
/-- The variables of a round are there. -/
def AsgQ {Y : Type} (n : Nat) (W : World) (V : Blks) (R : Y → Regs) (NB : Y → Blks) : Exit → Act → World → Prop
  | .normal, a, w => ∃ y, St n (R y) [] W V (NB y) a w
  | _, _, _ => False
theorem RunE.asg {Y : Type} {R : Y → Regs} {NB : Y → Blks} {V : Blks} (y : Y) (hc : chg = V) (hs : Sub (R y) r) (hn : Pick (NB y) news) : RunE (AsgQ n W V R NB) n .normal r [] W chg news := fun _ _ s => ⟨y, by subst hc; exact s.pick hs hn⟩
/-- How a round may be left: on to the next one, with the blocks V; or out of the loop. -/
def BodyX (W : World) (nv nb : List Nat) (V : Blks) (Stp : Code → Blks → Prop) : Exit → Act → World → Prop
  | .normal, _, w => ∃ B, B.map (·.1) = nb ∧ Mem W (V ++ B) [] w
  | .ret, _, w => ∃ V' B, V'.map (·.1) = nv ∧ B.map (·.1) = nb ∧ Stp .ret V' ∧ Mem W (V' ++ B) [] w
  | .exit id, _, w => ∃ V' B, V'.map (·.1) = nv ∧ B.map (·.1) = nb ∧ Stp (.exit id) V' ∧ Mem W (V' ++ B) [] w
  | _, _, _ => False
theorem RunE.bodyX {nv nb : List Nat} {V : Blks} {Stp : Code → Blks → Prop} (B : Blks) (hc : chg = V ++ B) (hb : B.map (·.1) = nb := by rfl) : RunE (BodyX W nv nb V Stp) n .normal r ds W chg news := fun _ _ s => ⟨B, hb, hc ▸ s.mem.drop⟩
theorem RunE.bodyX_ret {nv nb : List Nat} {V : Blks} {Stp : Code → Blks → Prop} (V' B : Blks) (hs : Stp .ret V') (hc : chg = V' ++ B) (hv : V'.map (·.1) = nv := by rfl) (hb : B.map (·.1) = nb := by rfl) : RunE (BodyX W nv nb V Stp) n .ret r ds W chg news := fun _ _ s => ⟨V', B, hv, hb, hs, hc ▸ s.mem.drop⟩
theorem RunE.bodyX_exit {id : Nat} {nv nb : List Nat} {V : Blks} {Stp : Code → Blks → Prop} (V' B : Blks) (hs : Stp (.exit id) V') (hc : chg = V' ++ B) (hv : V'.map (·.1) = nv := by rfl) (hb : B.map (·.1) = nb := by rfl) : RunE (BodyX W nv nb V Stp) n (.exit id) r ds W chg news := fun _ _ s => ⟨V', B, hv, hb, hs, hc ▸ s.mem.drop⟩

/-- And, where the loop goes on, something is so. -/
def BodyI (I : Prop) (Q : Exit → Act → World → Prop) : Exit → Act → World → Prop
  | .normal, a, w => I ∧ Q .normal a w
  | e, a, w => Q e a w
theorem RunE.bodyI {I : Prop} (hi : I) (h : RunE Q n .normal r ds W chg news) : RunE (BodyI I Q) n .normal r ds W chg news := fun a w s => ⟨hi, h a w s⟩
theorem RunE.bodyI_ret {I : Prop} (h : RunE Q n .ret r ds W chg news) : RunE (BodyI I Q) n .ret r ds W chg news := h
theorem RunE.bodyI_exit {I : Prop} {id : Nat} (h : RunE Q n (.exit id) r ds W chg news) : RunE (BodyI I Q) n (.exit id) r ds W chg news := h
theorem RunCR.bodyT {ro : Option Nat} {c : Code} (h : RunCR ro P Q n c r ds W chg news) : RunCR ro P (BodyI True Q) n c r ds W chg news := fun a w s =>
  Go.wpIn_mono (h a w s) (fun e a2 w2 hq => by
    cases e with
    | normal => exact ⟨trivial, hq⟩
    | _ => exact hq)
theorem Mem.roundN {w w' : World} {V V' n0 B : Blks} (h : Mem W chg (V ++ n0) w) (h' : Mem w (V' ++ B) [] w') (hm : V'.map (·.1) = V.map (·.1)) (hB : ∀ b ∈ B.map (·.1), W.heap.size ≤ b ∧ ∀ o, (b, o) ∉ chg ++ (V ++ n0)) : Mem W chg (V' ++ n0) w' := by
  have hV : ∀ b, (∃ o, (b, o) ∈ V') ↔ ∃ o, (b, o) ∈ V := fun b => by rw [← mem_names, ← mem_names, hm]
  have hge : ∀ b o, (b, o) ∈ V' → W.heap.size ≤ b := fun b o hb => by
    obtain ⟨o2, h2⟩ := (hV b).1 ⟨o, hb⟩
    exact (h.newd b o2 (List.mem_append.2 (.inl h2))).1
  have hnd := h.once
  have hout : ∀ b o, (b, o) ∈ B → W.heap.size ≤ b ∧ ∀ o, (b, o) ∉ chg ++ (V ++ n0) := fun b o hb => hB b (mem_names.2 ⟨o, hb⟩)
  refine ⟨h'.os.trans h.os, h'.tape.trans h.tape, h'.output.trans h.output, Nat.le_trans h.size h'.size, fun k hk hc => ?_, fun b o hb => ?_, fun b o hb => ?_, ?_⟩
  · rw [h'.old k (Nat.lt_of_lt_of_le hk h.size) (fun o ho => by
      rcases List.mem_append.1 ho with ho | ho
      · have := hge k o ho; omega
      · have := (hout k o ho).1; omega)]
    exact h.old k hk hc
  · have h1 := h.chgd b o hb
    refine ⟨h1.1, ?_⟩
    rw [h'.old b (h.lt_new (List.mem_append.2 (.inl hb))) (fun o2 ho => ?_)]
    · exact h1.2
    · rcases List.mem_append.1 ho with ho | ho
      · have := hge b o2 ho; omega
      · exact (hout b o2 ho).2 o (List.mem_append.2 (.inl hb))
  · rcases List.mem_append.1 hb with hb | hb
    · exact ⟨hge b o hb, h'.at (by simp [hb])⟩
    · have h1 := h.newd b o (List.mem_append.2 (.inr hb))
      refine ⟨h1.1, ?_⟩
      rw [h'.old b (h.lt_new (List.mem_append.2 (.inr (List.mem_append.2 (.inr hb))))) (fun o2 ho => ?_)]
      · exact h1.2
      · rcases List.mem_append.1 ho with ho | ho
        · obtain ⟨o3, h3⟩ := (hV b).1 ⟨o2, ho⟩
          rw [List.map_append, List.map_append, List.nodup_append] at hnd
          have h4 := (List.nodup_append.1 hnd.2.1).2.2 b (mem_names.2 ⟨o3, h3⟩) b (mem_names.2 ⟨o, hb⟩)
          exact h4 rfl
        · exact (hout b o2 ho).2 o (List.mem_append.2 (.inr (List.mem_append.2 (.inr hb))))
  · have e : (chg ++ (V' ++ n0)).map (·.1) = (chg ++ (V ++ n0)).map (·.1) := by simp [List.map_append, hm]
    rw [e]; exact hnd
/-- The variables of a round, held. -/
structure Held (n B : Nat) (r : Regs) (NB : Blks) (a : Act) (w : World) : Prop where
  size : a.tmps.size = n
  agree : Agree a r
  defers : a.defers = []
  held : ∀ b o, (b, o) ∈ NB → B ≤ b ∧ w.heap[b]? = some o
  once : (NB.map (·.1)).Nodup

/-- What a range and its rounds must be, wherever the loop stands. -/
structure RangeOk {α Y : Type} (P : Program) (n N : Nat) (r : Regs) (W : World) (chg n0 : Blks) (ps : List Nat) (assign body : Code) (enc : α → List Value) (V : List α → Blks) (RY : α → Y → Regs) (NB : α → Y → Blks) (Stp : Code → List α → Blks → Prop) (Iv : List α → Prop) : Prop where
  iv0 : Iv []
  names : ∀ pre, (V pre).map (·.1) = (V []).map (·.1)
  cells : ∀ pre b o, (b, o) ∈ V pre → o.isCells = true
  cellsN : ∀ x y b o, (b, o) ∈ NB x y → o.isCells = true
  lens : ∀ x, (enc x).length = ps.length
  inps : ∀ p ∈ ps, p < n
  asg : ∀ l pre x W1, Mem W chg (V pre ++ n0) W1 → RunCR (some l) P (AsgQ n W1 (V pre) (RY x) (NB x)) n assign (putsR ps (enc x) r) [] W1 (V pre) []
  body : ∀ l pre x y W1, pre.length < N → Iv pre → Mem W chg (V pre ++ n0) W1 → InR l W1 ((V pre ++ NB x y).map (·.1)) → (∀ b, (∃ o, (b, o) ∈ chg ++ n0) ∨ b < W.heap.size → b ∉ (V pre ++ NB x y).map (·.1)) → RunCR (some l) P (BodyI (Iv (pre ++ [x])) (BodyX W1 ((V []).map (·.1)) ((NB x y).map (·.1)) (V (pre ++ [x])) (fun c V' => Stp c (pre ++ [x]) V'))) n body (RY x y) [] W1 (V pre ++ NB x y) []

variable {α Y : Type} {N : Nat} {n0 : Blks} {ps : List Nat} {assign body : Code} {enc : α → List Value} {V : List α → Blks} {RY : α → Y → Regs} {NB : α → Y → Blks} {Stp : Code → List α → Blks → Prop} {Iv : List α → Prop}

theorem RangeOk.lt (H : RangeOk P n N r W chg n0 ps assign body enc V RY NB Stp Iv) {w : World} (s0 : Mem W chg (V [] ++ n0) w) : ∀ pre b o, (b, o) ∈ chg ++ (V pre ++ n0) → b < w.heap.size := fun pre b o hb => by
  rcases List.mem_append.1 hb with hb | hb
  · exact s0.lt_new (List.mem_append.2 (.inl hb))
  · rcases List.mem_append.1 hb with hb | hb
    · have : b ∈ (V pre).map (·.1) := mem_names.2 ⟨o, hb⟩
      rw [H.names pre] at this
      obtain ⟨o2, h2⟩ := mem_names.1 this
      exact s0.lt_new (List.mem_append.2 (.inr (List.mem_append.2 (.inl h2))))
    · exact s0.lt_new (List.mem_append.2 (.inr (List.mem_append.2 (.inr hb))))
/-- What is known of the memory from round to round. -/
def RI (W : World) (chg n0 : Blks) (V : List α → Blks) (B : Nat) (pre : List α) (W' : World) : Prop := Mem W chg (V pre ++ n0) W' ∧ B ≤ W'.heap.size
/-- What is known behind a round that leaves the loop. -/
def RIx (W : World) (chg n0 : Blks) (nv : List Nat) (Stp : Code → List α → Blks → Prop) (B : Nat) (c : Code) (pre : List α) (W' : World) : Prop := ∃ V', V'.map (·.1) = nv ∧ Stp c pre V' ∧ Mem W chg (V' ++ n0) W' ∧ B ≤ W'.heap.size
def RJ (W : World) (chg n0 : Blks) (V : List α → Blks) (Iv : List α → Prop) (B : Nat) (pre : List α) (W' : World) : Prop := RI W chg n0 V B pre W' ∧ Iv pre
theorem RangeOk.own (H : RangeOk P n N r W chg n0 ps assign body enc V RY NB Stp Iv) {w : World} (s0 : Mem W chg (V [] ++ n0) w) : OwnFrom w.heap.size (RI W chg n0 V w.heap.size) := fun pre _ _ _ hI hgr hr =>
  ⟨hI.1.turned hgr (fun k e => (hr k e).1) (H.lt s0 pre) s0.size, Nat.le_trans hI.2 hgr.size⟩
theorem RangeOk.ownJ (H : RangeOk P n N r W chg n0 ps assign body enc V RY NB Stp Iv) {w : World} (s0 : Mem W chg (V [] ++ n0) w) : OwnFrom w.heap.size (RJ W chg n0 V Iv w.heap.size) := fun pre _ _ _ hI hgr hr => ⟨H.own s0 pre _ _ _ hI.1 hgr hr, hI.2⟩
theorem RangeOk.ownX (H : RangeOk P n N r W chg n0 ps assign body enc V RY NB Stp Iv) {w : World} (s0 : Mem W chg (V [] ++ n0) w) (c : Code) : OwnFrom w.heap.size (RIx W chg n0 ((V []).map (·.1)) Stp w.heap.size c) := fun pre _ _ _ hI hgr hr => by
  obtain ⟨V', h1, h2, h3, h4⟩ := hI
  refine ⟨V', h1, h2, h3.turned hgr (fun k e => (hr k e).1) (fun b o hb => ?_) s0.size, Nat.le_trans h4 hgr.size⟩
  rcases List.mem_append.1 hb with hb | hb
  · exact H.lt s0 [] b o (List.mem_append.2 (.inl hb))
  · rcases List.mem_append.1 hb with hb | hb
    · have : b ∈ V'.map (·.1) := mem_names.2 ⟨o, hb⟩
      rw [h1] at this
      obtain ⟨o2, h2⟩ := mem_names.1 this
      exact H.lt s0 [] b o2 (List.mem_append.2 (.inr (List.mem_append.2 (.inl h2))))
    · exact H.lt s0 [] b o (List.mem_append.2 (.inr (List.mem_append.2 (.inr hb))))
theorem RangeOk.ownA (H : RangeOk P n N r W chg n0 ps assign body enc V RY NB Stp Iv) {B : Nat} (x : α) (a' : Act) : OwnFrom B (fun (_ : Unit) W' => ∃ y, Held n B (RY x y) (NB x y) a' W') := fun _ A C row hI hgr hr => by
  obtain ⟨y, h⟩ := hI
  refine ⟨y, h.size, h.agree, h.defers, fun b o hb => ?_, h.once⟩
  obtain ⟨h1, h2⟩ := h.held b o hb
  refine ⟨h1, ?_⟩
  rw [hgr.block b (Array.getElem?_eq_some_iff.1 h2).1 (fun e => ?_)]
  · exact h2
  · obtain ⟨_, o2, h3, h4⟩ := hr b e.symm
    rw [h2] at h3
    cases h3
    rw [H.cellsN x y b o hb] at h4
    cases h4
theorem keepsFrom_mem {w w' : World} {B : Nat} {V : Blks} (h : Mem w V [] w') (hv : ∀ b o, (b, o) ∈ V → b < B ∨ ∃ o', w.heap[b]? = some o' ∧ o'.isCells = true) : KeepsFrom B w w' :=
  ⟨h.size, fun k o hB hk ho => by
    rw [h.old k (Array.getElem?_eq_some_iff.1 hk).1 (fun o2 ho2 => ?_)]
    · exact hk
    · rcases hv k o2 ho2 with h1 | ⟨o3, h3, h4⟩
      · omega
      · rw [hk] at h3; cases h3; rw [ho] at h4; cases h4⟩
theorem RangeOk.asgW (H : RangeOk P n N r W chg n0 ps assign body enc V RY NB Stp Iv) {a : Act} {w : World} (s : St n r ds W chg (V [] ++ n0) a w) (l : Nat) (pre : List α) (x : α) (W1 : World) (K : Act → World → Prop) (hI : RI W chg n0 V w.heap.size pre W1)
    (hK : ∀ a' W', KeepsFrom w.heap.size W1 W' → KpX w.heap.size ((V []).map (·.1)) W1 W' → RI W chg n0 V w.heap.size pre W' → (∃ y, Held n w.heap.size (RY x y) (NB x y) a' W') → K a' W') :
    assign.wpIn ((Fr none).inRound l) 7 P (Exit.then K (fun _ _ _ => False)) { tmps := (ps.toArray.zip (enc x).toArray).foldl (fun t (p, v) => t.setIfInBounds p v) a.tmps, defers := [] } W1 := by
  have hp := putsR_agree ps (enc x) a.tmps r (fun p hp => by rw [s.size]; exact H.inps p hp) (fun u v hu => s.agree u v hu)
  have e : (ps.toArray.zip (enc x).toArray).foldl (fun t (pv : Nat × Value) => t.setIfInBounds pv.1 pv.2) a.tmps = (ps.zip (enc x)).foldl (fun t (pv : Nat × Value) => t.setIfInBounds pv.1 pv.2) a.tmps := by
    rw [← Array.foldl_toList, Array.toList_zip]
  have hst : Mem W1 (V pre) [] W1 := ⟨rfl, rfl, rfl, Nat.le_refl _, fun _ _ _ => rfl, fun b o hb => ⟨hI.1.lt_new (List.mem_append.2 (.inr (List.mem_append.2 (.inl hb)))), (hI.1.newd b o (List.mem_append.2 (.inl hb))).2⟩, fun _ _ hb => (by cases hb), by
    have := hI.1.once
    rw [List.map_append, List.map_append, List.nodup_append] at this
    simpa using (List.nodup_append.1 this.2.1).1⟩
  have hr := H.asg l pre x W1 hI.1 { tmps := (ps.zip (enc x)).foldl (fun t (pv : Nat × Value) => t.setIfInBounds pv.1 pv.2) a.tmps, defers := [] } W1 ⟨by rw [hp.2]; exact s.size, fun u v hu => hp.1 u v hu, rfl, hst⟩
  show assign.wpIn (Fr (some l)) 7 P _ { tmps := (ps.toArray.zip (enc x).toArray).foldl (fun t (pv : Nat × Value) => t.setIfInBounds pv.1 pv.2) a.tmps, defers := [] } W1
  rw [e]
  refine Go.wpIn_mono (wpIn_any hr) ?_
  intro e a2 w2 hq
  cases e with
  | normal =>
    obtain ⟨y, s2⟩ := hq
    have hlt : ∀ b o, (b, o) ∈ V pre → b < w.heap.size := fun b o hb => H.lt s.mem pre b o (List.mem_append.2 (.inr (List.mem_append.2 (.inl hb))))
    refine hK a2 w2 (keepsFrom_mem s2.mem.drop (fun b o hb => .inl (hlt b o hb))) (fun k hk hne => s2.mem.old k (Nat.lt_of_lt_of_le hk hI.2) (fun o ho => hne (by rw [← H.names pre]; exact mem_names.2 ⟨o, ho⟩))) ⟨?_, Nat.le_trans hI.2 s2.mem.size⟩ ⟨y, s2.size, s2.agree, s2.defers, fun b o hb => ?_, ?_⟩
    · have h2 := Mem.round hI.1 s2.mem.drop rfl
      exact h2
    · have := s2.mem.newd b o hb
      exact ⟨Nat.le_trans hI.2 this.1, this.2⟩
    · have := s2.mem.once
      rw [List.map_append, List.nodup_append] at this
      exact this.2.1
  | exit id => exact hq.elim
  | goto l => exact hq.elim
  | ret => exact hq.elim
  | panic c => exact hq.elim
  | outgrown => exact hq.elim
theorem RangeOk.round (H : RangeOk P n N r W chg n0 ps assign body enc V RY NB Stp Iv) {a : Act} {w : World} (s : St n r ds W chg (V [] ++ n0) a w) (l : Nat) (pre : List α) (x : α) (a' : Act) (W1 : World) (hl : w.heap.size ≤ l) (hrec : ∃ x, W1.heap[l]? = some (.loop x))
    (hI : RI W chg n0 V w.heap.size pre W1) (hA : ∃ y, Held n w.heap.size (RY x y) (NB x y) a' W1) (hlen : pre.length < N) (hiv : Iv pre) :
    body.wpIn ((Fr none).inRound l) 7 P (ownPostG w.heap.size (KpX w.heap.size ((V []).map (·.1))) (RJ W chg n0 V Iv w.heap.size) (RIx W chg n0 ((V []).map (·.1)) Stp w.heap.size) (pre ++ [x]) W1) a' W1 := by
  obtain ⟨y, hh⟩ := hA
  have hlt : ∀ b o, (b, o) ∈ chg ++ (V pre ++ n0) → b < w.heap.size := H.lt s.mem pre
  have hVlt : ∀ b o, (b, o) ∈ V pre → b < w.heap.size := fun b o hb => hlt b o (List.mem_append.2 (.inr (List.mem_append.2 (.inl hb))))
  have hV' : ∀ (V' : Blks), V'.map (·.1) = (V []).map (·.1) → ∀ b o, (b, o) ∈ V' → b < w.heap.size := fun V' hv b o hb => by
    have : b ∈ V'.map (·.1) := mem_names.2 ⟨o, hb⟩
    rw [hv, ← H.names pre] at this
    obtain ⟨o2, h2⟩ := mem_names.1 this
    exact hVlt b o2 h2
  have hB' : ∀ (B : Blks), B.map (·.1) = (NB x y).map (·.1) → ∀ b o, (b, o) ∈ B → w.heap.size ≤ b ∧ ∃ o', W1.heap[b]? = some o' ∧ o'.isCells = true := fun B hb b o h => by
    have : b ∈ B.map (·.1) := mem_names.2 ⟨o, h⟩
    rw [hb] at this
    obtain ⟨o2, h2⟩ := mem_names.1 this
    obtain ⟨h3, h4⟩ := hh.held b o2 h2
    exact ⟨h3, o2, h4, H.cellsN x y b o2 h2⟩
  have hst : Mem W1 (V pre ++ NB x y) [] W1 := ⟨rfl, rfl, rfl, Nat.le_refl _, fun _ _ _ => rfl, fun b o hb => by
      rcases List.mem_append.1 hb with hb | hb
      · exact ⟨hI.1.lt_new (List.mem_append.2 (.inr (List.mem_append.2 (.inl hb)))), (hI.1.newd b o (List.mem_append.2 (.inl hb))).2⟩
      · have h1 := (hh.held b o hb).2
        exact ⟨(Array.getElem?_eq_some_iff.1 h1).1, h1⟩, fun _ _ hb => (by cases hb), by
      have h1 := hI.1.once
      rw [List.map_append, List.map_append, List.nodup_append] at h1
      rw [List.append_nil, List.map_append, List.nodup_append]
      refine ⟨(List.nodup_append.1 h1.2.1).1, hh.once, fun b hb c hc e => ?_⟩
      subst e
      obtain ⟨o, ho⟩ := mem_names.1 hb
      obtain ⟨o2, ho2⟩ := mem_names.1 hc
      have := hVlt b o ho
      have := (hh.held b o2 ho2).1
      omega⟩
  have hInR : InR l W1 ((V pre ++ NB x y).map (·.1)) := ⟨hrec, fun hc => by
    obtain ⟨o, ho⟩ := mem_names.1 hc
    rcases List.mem_append.1 ho with ho | ho
    · have := hVlt l o ho; omega
    · obtain ⟨q, hq⟩ := hrec
      have h1 := (hh.held l o ho).2
      rw [hq] at h1
      cases h1
      have := H.cellsN x y l _ ho
      cases this⟩
  have hAp : ∀ b, (∃ o, (b, o) ∈ chg ++ n0) ∨ b < W.heap.size → b ∉ (V pre ++ NB x y).map (·.1) := fun b hb hc => by
    obtain ⟨o, ho⟩ := mem_names.1 hc
    have hnd := hI.1.once
    rcases List.mem_append.1 ho with ho | ho
    · rcases hb with ⟨o2, hb⟩ | hb
      · rw [List.map_append, List.map_append, List.nodup_append] at hnd
        rcases List.mem_append.1 hb with hb | hb
        · exact hnd.2.2 b (mem_names.2 ⟨o2, hb⟩) b (List.mem_append.2 (.inl (mem_names.2 ⟨o, ho⟩))) rfl
        · exact (List.nodup_append.1 hnd.2.1).2.2 b (mem_names.2 ⟨o, ho⟩) b (mem_names.2 ⟨o2, hb⟩) rfl
      · have := (hI.1.newd b o (List.mem_append.2 (.inl ho))).1
        omega
    · have h1 := (hh.held b o ho).1
      rcases hb with ⟨o2, hb⟩ | hb
      · have : b < w.heap.size := by
          rcases List.mem_append.1 hb with hb | hb
          · exact hlt b o2 (List.mem_append.2 (.inl hb))
          · exact hlt b o2 (List.mem_append.2 (.inr (List.mem_append.2 (.inr hb))))
        omega
      · have := s.mem.size
        omega
  have hr := H.body l pre x y W1 hlen hiv hI.1 hInR hAp a' W1 ⟨hh.size, hh.agree, hh.defers, hst⟩
  show body.wpIn (Fr (some l)) 7 P _ a' W1
  have hBout : ∀ (B : Blks), B.map (·.1) = (NB x y).map (·.1) → ∀ b ∈ B.map (·.1), W.heap.size ≤ b ∧ ∀ o, (b, o) ∉ chg ++ (V pre ++ n0) := fun B hb b hbm => by
    obtain ⟨o, ho⟩ := mem_names.1 hbm
    have h1 := (hB' B hb b o ho).1
    exact ⟨Nat.le_trans s.mem.size h1, fun o2 h2 => by have := hlt b o2 h2; omega⟩
  have hkf : ∀ (V' B : Blks) (w2 : World), V'.map (·.1) = (V []).map (·.1) → B.map (·.1) = (NB x y).map (·.1) → Mem W1 (V' ++ B) [] w2 → KeepsFrom w.heap.size W1 w2 := fun V' B w2 hv hb hm =>
    keepsFrom_mem hm (fun b o ho => by
      rcases List.mem_append.1 ho with ho | ho
      · exact .inl (hV' V' hv b o ho)
      · exact .inr (hB' B hb b o ho).2)
  refine Go.wpIn_mono (wpIn_any hr) ?_
  intro e a2 w2 hq
  cases e with
  | normal =>
    obtain ⟨hiv2, B, hb, hm⟩ := hq
    refine ⟨hkf _ B w2 (H.names _) hb hm, fun k hk hne => hm.old k (Nat.lt_of_lt_of_le hk hI.2) (fun o ho => ?_), ⟨hI.1.roundN hm (by rw [H.names, H.names pre]) (hBout B hb), Nat.le_trans hI.2 hm.size⟩, hiv2⟩
    rcases List.mem_append.1 ho with ho | ho
    · exact hne (by rw [← H.names (pre ++ [x])]; exact mem_names.2 ⟨o, ho⟩)
    · have := (hB' B hb k o ho).1; omega
  | exit id =>
    obtain ⟨V', B, hv, hb, hst2, hm⟩ := hq
    exact ⟨hkf V' B w2 hv hb hm, V', hv, hst2, hI.1.roundN hm (by rw [hv, H.names pre]) (hBout B hb), Nat.le_trans hI.2 hm.size⟩
  | ret =>
    obtain ⟨V', B, hv, hb, hst2, hm⟩ := hq
    exact ⟨hkf V' B w2 hv hb hm, V', hv, hst2, hI.1.roundN hm (by rw [hv, H.names pre]) (hBout B hb), Nat.le_trans hI.2 hm.size⟩
  | goto l => exact hq.elim
  | panic c => exact hq.elim
  | outgrown => exact hq.elim
theorem kpX_trans {B : Nat} {nm : List Nat} {A C D : World} (h1 : KpX B nm A C) (h2 : KpX B nm C D) : KpX B nm A D := fun k hk hne => (h2 k hk hne).trans (h1 k hk hne)
theorem kpX_put {B : Nat} {nm : List Nat} (A : World) (l : Nat) (o' : Obj) (h : B ≤ l) : KpX B nm A (A.putObj l o') := fun k hk _ => World.putObj_heap_other (by omega)
/-- 'for x := range seq', of a function's own code. -/
theorem RunC.rangeH' {g : Operand} {gf : Nat} {lb : Array Value} {S Sp : List α → Prop} (H : RangeOk P n N r W chg n0 ps assign body enc V RY NB Stp Iv)
    (hg : rev r g = some (.func (.func gf) #[] lb)) (he : Enters P gf) (hn : Pick (V [] ++ n0) news)
    (hseq : ∀ w, Mem W chg (V [] ++ n0) w → SeqStopsK (Fr none) 8 P gf lb (fun x => (enc x).toArray) (KpX w.heap.size ((V []).map (·.1))) S Sp N w)
    (h : ∀ xs D, S xs → Iv xs → RunE Q n .normal r ({ target := .collected D, args := #[] } :: ds) W chg ((D, .deferred (some [])) :: (V xs ++ n0)))
    (h2 : ∀ c pre V' D, Sp pre → V'.map (·.1) = (V []).map (·.1) → Stp c pre V' → RunC P Q n c r ({ target := .collected D, args := #[] } :: ds) W chg ((D, .deferred (some [])) :: (V' ++ n0))) :
    RunC P Q n (.rangeFunc g ps.toArray assign body) r ds W chg news := fun a w s => by
  have s' : St n r ds W chg (V [] ++ n0) a w := ⟨s.size, s.agree, s.defers, s.mem.pick hn⟩
  have mark : ∀ (V' : Blks) (D : Nat) (W' : World), V'.map (·.1) = (V []).map (·.1) → w.heap.size ≤ D → Mem W chg (V' ++ n0) W' → W'.heap[D]? = some (.deferred (some [])) → Mem W chg ((D, .deferred (some [])) :: (V' ++ n0)) W' := fun V' D W' hv hD hI hK => by
    have hlt : ∀ b o, (b, o) ∈ chg ++ (V' ++ n0) → b < w.heap.size := fun b o hb => by
      rcases List.mem_append.1 hb with hb | hb
      · exact H.lt s'.mem [] b o (List.mem_append.2 (.inl hb))
      · rcases List.mem_append.1 hb with hb | hb
        · have : b ∈ V'.map (·.1) := mem_names.2 ⟨o, hb⟩
          rw [hv] at this
          obtain ⟨o2, h2⟩ := mem_names.1 this
          exact H.lt s'.mem [] b o2 (List.mem_append.2 (.inr (List.mem_append.2 (.inl h2))))
        · exact H.lt s'.mem [] b o (List.mem_append.2 (.inr (List.mem_append.2 (.inr hb))))
    refine { hI with newd := fun b o hb => ?_, once := ?_ }
    · rcases List.mem_cons.1 hb with hb | hb
      · cases hb; exact ⟨Nat.le_trans s'.mem.size hD, hK⟩
      · exact hI.newd b o hb
    · have hnd := hI.once
      rw [List.map_append, List.nodup_append] at hnd ⊢
      refine ⟨hnd.1, ?_, ?_⟩
      · rw [List.map_cons, List.nodup_cons]
        refine ⟨fun hm => ?_, hnd.2.1⟩
        obtain ⟨o, ho⟩ := mem_names.1 hm
        have := hlt D o (List.mem_append.2 (.inr ho))
        omega
      · intro b hb c hc
        rw [List.map_cons, List.mem_cons] at hc
        rcases hc with rfl | hc
        · obtain ⟨o, ho⟩ := mem_names.1 hb
          have := hlt b o (List.mem_append.2 (.inl ho))
          intro e; subst e; omega
        · exact hnd.2.2 b hb c hc
  refine (wpIn_wide (n := 9)).1 ?_
  show Code.wpIn (Fr none) 9 P _ Q a w
  exact wpIn_rangeFunc_ownH (F := Fr none) (n := 9) rfl (by decide) (s.agree.eval hg) trivial he (hseq w s'.mem) kpX_trans (fun A l o o' hl _ _ _ => kpX_put A l o' hl) (Below.refl _ w) (fun x => by simp [H.lens x])
    (RJ W chg n0 V Iv w.heap.size) (RIx W chg n0 ((V []).map (fun x : Nat × Obj => x.1)) Stp w.heap.size) (H.ownJ s'.mem) (H.ownX s'.mem) ⟨⟨s'.mem, Nat.le_refl _⟩, H.iv0⟩ (fun x a' W' => ∃ y, Held n w.heap.size (RY x y) (NB x y) a' W') (fun x a' => H.ownA x a')
    (fun l pre x W1 K hI hK => H.asgW s' l pre x W1 K hI.1 (fun a' W' h1 h2 h3 h4 => hK a' W' h1 h2 ⟨h3, hI.2⟩ h4)) (fun l pre x a' W1 hl hrec hI hA hlen => H.round s' l pre x a' W1 hl hrec hI.1 hA hlen hI.2)
    (fun D xs W' hD hS hI hK => h xs D hS hI.2 _ W' ⟨s.size, s.agree, by rw [← s.defers], mark _ D W' (H.names xs) hD hI.1.1 hK⟩)
    (fun D c pre W' hD hSp hI hK => by
      obtain ⟨V', hv, hst, hm, _⟩ := hI
      exact (wpIn_wide (n := 9)).2 (h2 c pre V' D hSp hv hst _ W' ⟨s.size, s.agree, by rw [← s.defers], mark V' D W' hv hD hm hK⟩))
/-- In a round of another one. -/
theorem RunCR.rangeN' {l : Nat} {g : Operand} {gf : Nat} {lb : Array Value} {S Sp : List α → Prop} (H : RangeOk P n N r W chg n0 ps assign body enc V RY NB Stp Iv) {nm : List Nat} (hL : InR l W nm) (hnm : chg.map (·.1) = nm)
    (hg : rev r g = some (.func (.func gf) #[] lb)) (he : Enters P gf) (hn : Pick (V [] ++ n0) news)
    (hseq : ∀ w, Mem W chg (V [] ++ n0) w → SeqStopsK (Fr none) 8 P gf lb (fun x => (enc x).toArray) (KpX w.heap.size ((V []).map (·.1))) S Sp N w)
    (h : ∀ xs, S xs → Iv xs → RunE Q n .normal r ds W chg (V xs ++ n0))
    (h2 : ∀ c pre V', Sp pre → V'.map (·.1) = (V []).map (·.1) → Stp c pre V' → RunCR (some l) P Q n c r ds W chg (V' ++ n0)) :
    RunCR (some l) P Q n (.rangeFunc g ps.toArray assign body) r ds W chg news := fun a w s => by
  have s' : St n r ds W chg (V [] ++ n0) a w := ⟨s.size, s.agree, s.defers, s.mem.pick hn⟩
  obtain ⟨q, hq⟩ := hL.rec'
  exact wpIn_rangeFunc_ownN (F := Fr (some l)) (n := 9) (l₀ := l) (r₀ := q) rfl (s.mem.old_at hq (fun o ho => hL.notin (by rw [← hnm]; exact mem_names.2 ⟨o, ho⟩))) (by decide) (s.agree.eval hg) trivial he (SeqStopsK.inRound l (hseq w s'.mem)) kpX_trans (fun A l o o' hl _ _ _ => kpX_put A l o' hl) (Below.refl _ w) (fun x => by simp [H.lens x])
    (RJ W chg n0 V Iv w.heap.size) (RIx W chg n0 ((V []).map (fun x : Nat × Obj => x.1)) Stp w.heap.size) (H.ownJ s'.mem) (H.ownX s'.mem) ⟨⟨s'.mem, Nat.le_refl _⟩, H.iv0⟩ (fun x a' W' => ∃ y, Held n w.heap.size (RY x y) (NB x y) a' W') (fun x a' => H.ownA x a')
    (fun l pre x W1 K hI hK => H.asgW s' l pre x W1 K hI.1 (fun a' W' h1 h2 h3 h4 => hK a' W' h1 h2 ⟨h3, hI.2⟩ h4)) (fun l pre x a' W1 hl hrec hI hA hlen => H.round s' l pre x a' W1 hl hrec hI.1 hA hlen hI.2)
    (fun xs W' hS hI => h xs hS hI.2 _ W' ⟨s.size, s.agree, s.defers, hI.1.1⟩)
    (fun c pre W' hSp hI => by
      obtain ⟨V', hv, hst, hm, _⟩ := hI
      exact h2 c pre V' hSp hv hst _ W' ⟨s.size, s.agree, s.defers, hm⟩)
/-- A range over a function, of a function's own code: the blocks V turn from round to round; the variables of a round are registers, or lie in blocks NB. -/
theorem RunC.rangeH {α Y : Type} {g : Operand} {gf : Nat} {lb : Array Value} {S Sp : List α → Prop} {ps : List Nat} {assign body : Code} {q : Regs} {N : Nat} (n0 : Blks) (enc : α → List Value) (V : List α → Blks) (RY : α → Y → Regs → Regs) (NB : α → Y → Blks) (Stp : Code → List α → Blks → Prop)
    (_hs : Sub q r) (hn : Pick (V [] ++ n0) news) (hnm : ∀ pre, (V pre).map (·.1) = (V []).map (·.1)) (hcl : ∀ pre b o, (b, o) ∈ V pre → o.isCells = true) (hcn : ∀ x y b o, (b, o) ∈ NB x y → o.isCells = true)
    (hlen : ∀ x, (enc x).length = ps.length) (hin : (ps.all fun p => Nat.ble (p + 1) n) = true) (hg : rev r g = some (.func (.func gf) #[] lb)) (he : Enters P gf)
    (hseq : ∀ w, Mem W chg (V [] ++ n0) w → SeqStopsK (Fr none) 8 P gf lb (fun x => (enc x).toArray) (KpX w.heap.size ((V []).map (·.1))) S Sp N w)
    (hasg : ∀ l pre x W1, Mem W chg (V pre ++ n0) W1 → RunCR (some l) P (AsgQ n W1 (V pre) (fun y => RY x y q) (NB x)) n assign (putsR ps (enc x) r) [] W1 (V pre) [])
    (hbody : ∀ l pre x y W1, pre.length < N → Mem W chg (V pre ++ n0) W1 → InR l W1 ((V pre ++ NB x y).map (·.1)) → (∀ b, (∃ o, (b, o) ∈ chg ++ n0) ∨ b < W.heap.size → b ∉ (V pre ++ NB x y).map (·.1)) →
      RunCR (some l) P (BodyX W1 ((V []).map (·.1)) ((NB x y).map (·.1)) (V (pre ++ [x])) (fun c V' => Stp c (pre ++ [x]) V')) n body (RY x y q) [] W1 (V pre ++ NB x y) [])
    (h : ∀ xs D, S xs → RunE Q n .normal r ({ target := .collected D, args := #[] } :: ds) W chg ((D, .deferred (some [])) :: (V xs ++ n0)))
    (h2 : ∀ c pre V' D, Sp pre → V'.map (·.1) = (V []).map (·.1) → Stp c pre V' → RunC P Q n c r ({ target := .collected D, args := #[] } :: ds) W chg ((D, .deferred (some [])) :: (V' ++ n0))) :
    RunC P Q n (.rangeFunc g ps.toArray assign body) r ds W chg news :=
  RunC.rangeH' (RY := fun x y => RY x y q) (Iv := fun _ => True) ⟨trivial, hnm, hcl, hcn, hlen, fun p hp => Nat.le_of_ble_eq_true (List.all_eq_true.1 hin p hp), hasg, fun l pre x y W1 h1 _ h2 h3 h4 => (hbody l pre x y W1 h1 h2 h3 h4).bodyT⟩ hg he hn hseq (fun xs D hS _ => h xs D hS) h2
/-- With something that is so of what came before. -/
theorem RunC.rangeHI {α Y : Type} {g : Operand} {gf : Nat} {lb : Array Value} {S Sp : List α → Prop} {ps : List Nat} {assign body : Code} {q : Regs} {N : Nat} (n0 : Blks) (enc : α → List Value) (V : List α → Blks) (RY : α → Y → Regs → Regs) (NB : α → Y → Blks) (Stp : Code → List α → Blks → Prop) (Iv : List α → Prop) (iv0 : Iv [])
    (_hs : Sub q r) (hn : Pick (V [] ++ n0) news) (hnm : ∀ pre, (V pre).map (·.1) = (V []).map (·.1)) (hcl : ∀ pre b o, (b, o) ∈ V pre → o.isCells = true) (hcn : ∀ x y b o, (b, o) ∈ NB x y → o.isCells = true)
    (hlen : ∀ x, (enc x).length = ps.length) (hin : (ps.all fun p => Nat.ble (p + 1) n) = true) (hg : rev r g = some (.func (.func gf) #[] lb)) (he : Enters P gf)
    (hseq : ∀ w, Mem W chg (V [] ++ n0) w → SeqStopsK (Fr none) 8 P gf lb (fun x => (enc x).toArray) (KpX w.heap.size ((V []).map (·.1))) S Sp N w)
    (hasg : ∀ l pre x W1, Mem W chg (V pre ++ n0) W1 → RunCR (some l) P (AsgQ n W1 (V pre) (fun y => RY x y q) (NB x)) n assign (putsR ps (enc x) r) [] W1 (V pre) [])
    (hbody : ∀ l pre x y W1, pre.length < N → Iv pre → Mem W chg (V pre ++ n0) W1 → InR l W1 ((V pre ++ NB x y).map (·.1)) → (∀ b, (∃ o, (b, o) ∈ chg ++ n0) ∨ b < W.heap.size → b ∉ (V pre ++ NB x y).map (·.1)) →
      RunCR (some l) P (BodyI (Iv (pre ++ [x])) (BodyX W1 ((V []).map (·.1)) ((NB x y).map (·.1)) (V (pre ++ [x])) (fun c V' => Stp c (pre ++ [x]) V'))) n body (RY x y q) [] W1 (V pre ++ NB x y) [])
    (h : ∀ xs D, S xs → Iv xs → RunE Q n .normal r ({ target := .collected D, args := #[] } :: ds) W chg ((D, .deferred (some [])) :: (V xs ++ n0)))
    (h2 : ∀ c pre V' D, Sp pre → V'.map (·.1) = (V []).map (·.1) → Stp c pre V' → RunC P Q n c r ({ target := .collected D, args := #[] } :: ds) W chg ((D, .deferred (some [])) :: (V' ++ n0))) :
    RunC P Q n (.rangeFunc g ps.toArray assign body) r ds W chg news :=
  RunC.rangeH' (RY := fun x y => RY x y q) (Iv := Iv) ⟨iv0, hnm, hcl, hcn, hlen, fun p hp => Nat.le_of_ble_eq_true (List.all_eq_true.1 hin p hp), hasg, hbody⟩ hg he hn hseq h h2
theorem RunCR.rangeN {α Y : Type} {l : Nat} {g : Operand} {gf : Nat} {lb : Array Value} {S Sp : List α → Prop} {ps : List Nat} {assign body : Code} {q : Regs} {N : Nat} (n0 : Blks) (enc : α → List Value) (V : List α → Blks) (RY : α → Y → Regs → Regs) (NB : α → Y → Blks) (Stp : Code → List α → Blks → Prop) {nm : List Nat} (hL : InR l W nm) (hcm : chg.map (·.1) = nm)
    (_hs : Sub q r) (hn : Pick (V [] ++ n0) news) (hnm : ∀ pre, (V pre).map (·.1) = (V []).map (·.1)) (hcl : ∀ pre b o, (b, o) ∈ V pre → o.isCells = true) (hcn : ∀ x y b o, (b, o) ∈ NB x y → o.isCells = true)
    (hlen : ∀ x, (enc x).length = ps.length) (hin : (ps.all fun p => Nat.ble (p + 1) n) = true) (hg : rev r g = some (.func (.func gf) #[] lb)) (he : Enters P gf)
    (hseq : ∀ w, Mem W chg (V [] ++ n0) w → SeqStopsK (Fr none) 8 P gf lb (fun x => (enc x).toArray) (KpX w.heap.size ((V []).map (·.1))) S Sp N w)
    (hasg : ∀ l pre x W1, Mem W chg (V pre ++ n0) W1 → RunCR (some l) P (AsgQ n W1 (V pre) (fun y => RY x y q) (NB x)) n assign (putsR ps (enc x) r) [] W1 (V pre) [])
    (hbody : ∀ l pre x y W1, pre.length < N → Mem W chg (V pre ++ n0) W1 → InR l W1 ((V pre ++ NB x y).map (·.1)) → (∀ b, (∃ o, (b, o) ∈ chg ++ n0) ∨ b < W.heap.size → b ∉ (V pre ++ NB x y).map (·.1)) →
      RunCR (some l) P (BodyX W1 ((V []).map (·.1)) ((NB x y).map (·.1)) (V (pre ++ [x])) (fun c V' => Stp c (pre ++ [x]) V')) n body (RY x y q) [] W1 (V pre ++ NB x y) [])
    (h : ∀ xs, S xs → RunE Q n .normal r ds W chg (V xs ++ n0))
    (h2 : ∀ c pre V', Sp pre → V'.map (·.1) = (V []).map (·.1) → Stp c pre V' → RunCR (some l) P Q n c r ds W chg (V' ++ n0)) :
    RunCR (some l) P Q n (.rangeFunc g ps.toArray assign body) r ds W chg news :=
  RunCR.rangeN' (RY := fun x y => RY x y q) (Iv := fun _ => True) ⟨trivial, hnm, hcl, hcn, hlen, fun p hp => Nat.le_of_ble_eq_true (List.all_eq_true.1 hin p hp), hasg, fun l pre x y W1 h1 _ h2 h3 h4 => (hbody l pre x y W1 h1 h2 h3 h4).bodyT⟩ hL hcm hg he hn hseq (fun xs hS _ => h xs hS) h2
/-- What lay before a loop lies in its rounds. -/
theorem Mem.flat {w W1 : World} {n1 c1 nw : Blks} (hI : Mem W [] n1 W1) (hm : Mem W1 c1 nw w) (hc : ∀ b, b < W.heap.size → b ∉ c1.map (·.1)) : Mem W [] [] w :=
  ⟨hm.os.trans hI.os, hm.tape.trans hI.tape, hm.output.trans hI.output, Nat.le_trans hI.size hm.size, fun k hk _ => (hm.old k (Nat.lt_of_lt_of_le hk hI.size) (fun o ho => hc k hk (mem_names.2 ⟨o, ho⟩))).trans (hI.old k hk (by simp)), fun _ _ h => (by cases h), fun _ _ h => (by cases h), by simp⟩

/-! ### Leaving a function that holds loops -/
def markD (D : Nat) : Deferred := { target := .collected D, args := #[] }
def markB (D : Nat) : Nat × Obj := (D, .deferred (some []))
theorem leavesM_marks {fn : Func} {R : Ending → World → Prop} {tl : List Deferred} {t : Array Value} {news2 : Blks} (hend : ∀ w, Mem W chg news2 w → LeavesInM Fence.wide 9 P fn t R tl .returning w) : ∀ (Ds : List Nat) (w : World), Mem W chg (Ds.map markB ++ news2) w → LeavesInM Fence.wide 9 P fn t R (Ds.map markD ++ tl) .returning w
  | [], w, hm => hend w hm
  | D :: Ds, w, hm => ⟨by simp, .inl ⟨D, _, rfl, run_takeDeferred (hm.newd D _ (List.mem_cons_self ..)).2, leavesM_marks hend Ds _ (hm.putNew _)⟩⟩
theorem leaves_nil {fn : Func} {R : Ending → World → Prop} {news2 : Blks} {v : Value} {a : Act} (hag : Agree a r) (hv : ResVs P r (chg ++ news2) fn v) (hR : ∀ w, Mem W chg news2 w → R (.returned v) w) : ∀ w, Mem W chg news2 w → LeavesInM Fence.wide 9 P fn a.tmps R [] .returning w := fun w hm =>
  ⟨v, hv.run hag (fun _ _ h => hm.at h), hR w hm⟩
theorem leaves_closure {fn : Func} {f : FuncId} {T : TypeId} {mis : Int → Value} {R : Ending → World → Prop} {news2 : Blks} {v : Value} {b : Nat} {a : Act} (hc : CatchesIn P f T mis) (he : Enters P f) (hag : Agree a r) (hv : ResVs P r (chg ++ news2) fn v) (hR : ∀ w, Mem W chg news2 w → R (.returned v) w) :
    ∀ w, Mem W chg news2 w → LeavesInM Fence.wide 9 P fn a.tmps R [{ target := .fn (.func f) #[.pointer (some ⟨b, 0, none⟩)], args := #[] }] .returning w := fun w hm => by
  refine ⟨by simp, .inr ⟨fun h => (by cases h), _, _, f, #[.pointer (some ⟨b, 0, none⟩)], rfl, by simp [invoke]; exact he _ _, fun _ _ => trivial, (hc.calm b w).mono ?_⟩⟩
  rintro e u w' ⟨⟨x, rfl⟩, rfl, hm'⟩
  have hm2 := hm.pass hm'
  exact ⟨v, hv.run hag (fun _ _ h => hm2.at h), hR _ hm2⟩
theorem leaves_plain {fn : Func} {f : FuncId} {T : TypeId} {mis : Int → Value} {R : Ending → World → Prop} {news2 : Blks} {v : Value} {b : Nat} {a : Act} (hc : CatchesIn P f T mis) (he : Enters P f) (hag : Agree a r) (hv : ResVs P r (chg ++ news2) fn v) (hR : ∀ w, Mem W chg news2 w → R (.returned v) w) :
    ∀ w, Mem W chg news2 w → LeavesInM Fence.wide 9 P fn a.tmps R [{ target := .fn (.func f) #[], args := #[.pointer (some ⟨b, 0, none⟩)] }] .returning w := fun w hm => by
  refine ⟨by simp, .inr ⟨fun h => (by cases h), _, _, f, #[.pointer (some ⟨b, 0, none⟩)], rfl, by simp [invoke]; exact he _ _, fun _ _ => trivial, (hc.calm b w).mono ?_⟩⟩
  rintro e u w' ⟨⟨x, rfl⟩, rfl, hm'⟩
  have hm2 := hm.pass hm'
  exact ⟨v, hv.run hag (fun _ _ h => hm2.at h), hR _ hm2⟩
/-- Leaving with marks, and nothing else. -/
theorem RunE.outM {fn : Func} {R : Ending → World → Prop} {v : Value} {news2 : Blks} (Ds : List Nat) (hp : Pick (Ds.map markB ++ news2) news) (hv : ResVs P r (chg ++ news2) fn v) (hR : ∀ w, Mem W chg news2 w → R (.returned v) w) :
    RunE (bodyPostM Fence.wide 9 P fn R) n .ret r (Ds.map markD ++ []) W chg news := fun a w s => by
  show LeavesInM _ _ _ _ _ _ a.defers _ w
  rw [s.defers]
  exact leavesM_marks (leaves_nil s.agree hv hR) Ds w (s.mem.pick hp)
theorem RunE.outM_fin {fn : Func} {R : Ending → World → Prop} {v : Value} {news2 : Blks} (Ds : List Nat) (hp : Pick (Ds.map markB ++ news2) news) (hv : ResVs P r (chg ++ news2) fn v) (hR : ∀ w, Mem W chg news2 w → R (.returned v) w) :
    RunE (bodyPostM Fence.wide 9 P fn R) n .normal r (Ds.map markD ++ []) W chg news := fun a w s => by
  show LeavesInM _ _ _ _ _ _ a.defers _ w
  rw [s.defers]
  exact leavesM_marks (leaves_nil s.agree hv hR) Ds w (s.mem.pick hp)
/-- Leaving with marks, and a deferred closure that recovers. -/
theorem RunE.outMC {fn : Func} {f : FuncId} {T : TypeId} {mis : Int → Value} {R : Ending → World → Prop} {v : Value} {b : Nat} {news2 : Blks} (Ds : List Nat) (hc : CatchesIn P f T mis) (he : Enters P f) (hp : Pick (Ds.map markB ++ news2) news) (hv : ResVs P r (chg ++ news2) fn v) (hR : ∀ w, Mem W chg news2 w → R (.returned v) w) :
    RunE (bodyPostM Fence.wide 9 P fn R) n .ret r (Ds.map markD ++ [{ target := .fn (.func f) #[.pointer (some ⟨b, 0, none⟩)], args := #[] }]) W chg news := fun a w s => by
  show LeavesInM _ _ _ _ _ _ a.defers _ w
  rw [s.defers]
  exact leavesM_marks (leaves_closure hc he s.agree hv hR) Ds w (s.mem.pick hp)
theorem RunE.outMC_fin {fn : Func} {f : FuncId} {T : TypeId} {mis : Int → Value} {R : Ending → World → Prop} {v : Value} {b : Nat} {news2 : Blks} (Ds : List Nat) (hc : CatchesIn P f T mis) (he : Enters P f) (hp : Pick (Ds.map markB ++ news2) news) (hv : ResVs P r (chg ++ news2) fn v) (hR : ∀ w, Mem W chg news2 w → R (.returned v) w) :
    RunE (bodyPostM Fence.wide 9 P fn R) n .normal r (Ds.map markD ++ [{ target := .fn (.func f) #[.pointer (some ⟨b, 0, none⟩)], args := #[] }]) W chg news := fun a w s => by
  show LeavesInM _ _ _ _ _ _ a.defers _ w
  rw [s.defers]
  exact leavesM_marks (leaves_closure hc he s.agree hv hR) Ds w (s.mem.pick hp)
/-- Leaving with marks, and a deferred function that recovers. -/
theorem RunE.outMD {fn : Func} {f : FuncId} {T : TypeId} {mis : Int → Value} {R : Ending → World → Prop} {v : Value} {b : Nat} {news2 : Blks} (Ds : List Nat) (hc : CatchesIn P f T mis) (he : Enters P f) (hp : Pick (Ds.map markB ++ news2) news) (hv : ResVs P r (chg ++ news2) fn v) (hR : ∀ w, Mem W chg news2 w → R (.returned v) w) :
    RunE (bodyPostM Fence.wide 9 P fn R) n .ret r (Ds.map markD ++ [{ target := .fn (.func f) #[], args := #[.pointer (some ⟨b, 0, none⟩)] }]) W chg news := fun a w s => by
  show LeavesInM _ _ _ _ _ _ a.defers _ w
  rw [s.defers]
  exact leavesM_marks (leaves_plain hc he s.agree hv hR) Ds w (s.mem.pick hp)
theorem RunE.outMD_fin {fn : Func} {f : FuncId} {T : TypeId} {mis : Int → Value} {R : Ending → World → Prop} {v : Value} {b : Nat} {news2 : Blks} (Ds : List Nat) (hc : CatchesIn P f T mis) (he : Enters P f) (hp : Pick (Ds.map markB ++ news2) news) (hv : ResVs P r (chg ++ news2) fn v) (hR : ∀ w, Mem W chg news2 w → R (.returned v) w) :
    RunE (bodyPostM Fence.wide 9 P fn R) n .normal r (Ds.map markD ++ [{ target := .fn (.func f) #[], args := #[.pointer (some ⟨b, 0, none⟩)] }]) W chg news := fun a w s => by
  show LeavesInM _ _ _ _ _ _ a.defers _ w
  rw [s.defers]
  exact leavesM_marks (leaves_plain hc he s.agree hv hR) Ds w (s.mem.pick hp)
theorem RunE.panMC {fn : Func} {f : FuncId} {T : TypeId} {mis : Int → Value} {v v0 x : Value} {b : Nat} {k : Int} {news' : Blks} (hc : CatchesIn P f T mis) (he : Enters P f) (hu : Upd news b (.cells #[x] T (0, 0)) (.cells #[.int .i64 k] T (0, 0)) news') (hv : ResVs P r news' fn v) (hv0 : v = v0) :
    RunE (bodyPostM Fence.wide 9 P fn (Pure v0 W)) n (.panic [{ v := mis k, recovered := false }]) r [{ target := .fn (.func f) #[.pointer (some ⟨b, 0, none⟩)], args := #[] }] W [] news := fun a w s => by
  show LeavesInM _ _ _ _ _ _ a.defers _ w
  rw [s.defers]
  refine ⟨by simp, .inr ⟨fun h => (by cases h), _, _, f, #[.pointer (some ⟨b, 0, none⟩)], rfl, by simp [invoke]; exact he _ _, fun _ _ => trivial, (hc.wild b k x w (s.mem.newd _ _ hu.mem).2).mono ?_⟩⟩
  rintro e u w' ⟨⟨y, rfl⟩, rfl, hm⟩
  have hm2 := s.mem.turn_new hu hm
  exact ⟨v, hv.run s.agree (fun _ _ h => hm2.at (by simpa using h)), by rw [hv0], hm2.drop⟩
theorem out_pure {v v0 : Value} (h : v = v0) {news2 : Blks} : ∀ w, Mem W [] news2 w → Pure v0 W (.returned v) w := fun _ hm => ⟨by rw [h], hm.drop⟩
end
end Go.Eng
/- The engine: structs and arrays of numbers and truth values, compared. No program is in sight. -/
namespace Go.Eng
open Go Go.RowKit
/-- Fields that are compared by g. -/
def eqFs (P : Program) (g : TypeId → List Value → List Value → Option Bool) (cs es : List Value) : List Field → Option Bool
  | [] => some true
  | f :: fs => if f.name = "_" then none else
    match g f.type ((cs.drop f.offset).take (P.cellsOf f.type)) ((es.drop f.offset).take (P.cellsOf f.type)), eqFs P g cs es fs with
    | some a, some b => some (a && b)
    | _, _ => none
def eqIs (P : Program) (g : TypeId → List Value → List Value → Option Bool) (e : TypeId) (cs es : List Value) : List Nat → Option Bool
  | [] => some true
  | i :: is => match g e ((cs.drop (i * P.cellsOf e)).take (P.cellsOf e)) ((es.drop (i * P.cellsOf e)).take (P.cellsOf e)), eqIs P g e cs es is with
    | some a, some b => some (a && b)
    | _, _ => none
/-- Are values of a type, cell by cell, the same? -/
def eqF (P : Program) : Nat → TypeId → List Value → List Value → Option Bool
  | 0, _, _, _ => none
  | m + 1, t, cs, es => match P.underlying t with
    | some (.int _) => match cs, es with
      | [.int k a], [.int k' b] => if k = k' then some (decide (a = b)) else none
      | _, _ => none
    | some .bool => match cs, es with
      | [.bool a], [.bool b] => some (a == b)
      | _, _ => none
    | some (.struct fs) => if P.stoodInHeld t = false ∧ cs.length = P.cellsOf t ∧ es.length = P.cellsOf t then eqFs P (eqF P m) cs es fs.toList else none
    | some (.array n e) => if n ≠ 0 ∧ cs.length = P.cellsOf t ∧ es.length = P.cellsOf t then eqIs P (eqF P m) e cs es (List.range n) else none
    | _ => none
def valOf (P : Program) (t : TypeId) (cs : List Value) : Value := match P.underlying t with
  | some (.struct _) => .agg cs.toArray
  | some (.array _ _) => .agg cs.toArray
  | _ => cs.headD undef
section
variable {P : Program}
theorem part_of {m off : Nat} {t : TypeId} {xs es : List Value} {w : World} {b : Bool} (h : eqF P m t ((xs.drop off).take (P.cellsOf t)) es = some b) : (part t xs.toArray off).run P w = .ok (valOf P t ((xs.drop off).take (P.cellsOf t))) w := by
  cases m with
  | zero => cases h
  | succ m =>
    unfold eqF at h
    cases hu : P.underlying t with
    | none => simp [hu] at h
    | some d =>
      rw [hu] at h
      have plain : ∀ v, (xs.drop off).take (P.cellsOf t) = [v] → xs[off]? = some v := fun v hv => by
        have h1 : ((xs.drop off).take (P.cellsOf t))[0]? = some v := by rw [hv]; rfl
        rw [List.getElem?_take] at h1
        split at h1
        · simpa using h1
        · cases h1
      have agg : isAggD d = true → (part t xs.toArray off).run P w = .ok (.agg ((xs.drop off).take (P.cellsOf t)).toArray) w := fun ha => by
        obtain ⟨i, hi⟩ := info_of_underlying hu
        have hc : P.cellsOf t = i.size := by simp [Program.cellsOf, hi]
        have e : xs.toArray.extract off (off + i.size) = ((xs.drop off).take (P.cellsOf t)).toArray := by
          rw [hc]
          simp
        cases d <;> simp [isAggD] at ha <;> simp [part, isAgg, run_underlying hu, sizeOf, typeInfo, hi, ← e]
      unfold valOf
      rw [hu]
      cases d with
      | int k =>
        simp only at h ⊢
        split at h
        · rename_i a _ _ hv
          rw [hv]
          exact run_part1 hu rfl (by simpa using plain _ hv)
        · cases h
      | bool =>
        simp only at h ⊢
        split at h
        · rename_i a _ hv
          rw [hv]
          exact run_part1 hu rfl (by simpa using plain _ hv)
        · cases h
      | struct fs => exact agg rfl
      | array n e => exact agg rfl
      | _ => simp at h
theorem part_of2 {m off : Nat} {t : TypeId} {xs cs : List Value} {w : World} {b : Bool} (h : eqF P m t cs ((xs.drop off).take (P.cellsOf t)) = some b) : (part t xs.toArray off).run P w = .ok (valOf P t ((xs.drop off).take (P.cellsOf t))) w := by
  have h2 : ∃ b, eqF P m t ((xs.drop off).take (P.cellsOf t)) ((xs.drop off).take (P.cellsOf t)) = some b := by
    have sym : ∀ (m : Nat) (t : TypeId) (cs es : List Value) (b : Bool), eqF P m t cs es = some b → ∃ b, eqF P m t es es = some b := by
      intro m
      induction m with
      | zero => intro t cs es b h; cases h
      | succ m ih =>
        intro t cs es b h
        unfold eqF at h ⊢
        split at h
        · split at h
          · split at h
            · rename_i hk; subst hk; exact ⟨_, by simp; rfl⟩
            · cases h
          · cases h
        · split at h
          · exact ⟨_, by simp; rfl⟩
          · cases h
        · rename_i fs _
          split at h
          · rename_i hc
            rw [if_pos ⟨hc.1, hc.2.2, hc.2.2⟩]
            generalize fs.toList = l at h
            induction l generalizing b with
            | nil => exact ⟨true, rfl⟩
            | cons f l ihl =>
              unfold eqFs at h ⊢
              split at h
              · cases h
              · rename_i hn
                rw [if_neg hn]
                split at h
                · rename_i a b' h1 h2
                  obtain ⟨u, hu⟩ := ih _ _ _ _ h1
                  obtain ⟨v, hv⟩ := ihl _ h2
                  rw [hu, hv]; exact ⟨_, rfl⟩
                · cases h
          · cases h
        · rename_i n e _
          split at h
          · rename_i hc
            rw [if_pos ⟨hc.1, hc.2.2, hc.2.2⟩]
            generalize List.range n = l at h
            induction l generalizing b with
            | nil => exact ⟨true, rfl⟩
            | cons i l ihl =>
              unfold eqIs at h ⊢
              split at h
              · rename_i a b' h1 h2
                obtain ⟨u, hu⟩ := ih _ _ _ _ h1
                obtain ⟨v, hv⟩ := ihl _ h2
                rw [hu, hv]; exact ⟨_, rfl⟩
              · cases h
          · cases h
        · cases h
    exact sym _ _ _ _ _ h
  obtain ⟨b2, h2⟩ := h2
  exact part_of h2
theorem run_eqF (d : Nat) : ∀ (m : Nat) (t : TypeId) (cs es : List Value) (b : Bool) (w : World), eqF P m t cs es = some b → (Op.equalIn (d + m) t (valOf P t cs) (valOf P t es)).run P w = .ok b w := by
  intro m
  induction m with
  | zero => intro t cs es b w h; cases h
  | succ m ih =>
    intro t cs es b w h
    unfold eqF at h
    unfold valOf
    rw [show d + (m + 1) = (d + m) + 1 from rfl]
    cases hu : P.underlying t with
    | none => simp [hu] at h
    | some dd =>
      rw [hu] at h
      cases dd with
      | int k =>
        simp only at h ⊢
        split at h
        · split at h
          · rename_i hk
            cases h
            subst hk
            rw [List.headD_cons, List.headD_cons, run_equal_int hu]
            rfl
          · cases h
        · cases h
      | bool =>
        simp only at h ⊢
        split at h
        · cases h
          rw [List.headD_cons, List.headD_cons, run_equalIn_bool w _ _ _ _ hu]
        · cases h
      | struct fs =>
        simp only at h ⊢
        split at h
        · rename_i hc
          have hfs : P.fieldsOf t = fs := by simp [Program.fieldsOf, hu]
          rw [run_equalIn_struct w (d + m) t _ _ (by rw [hfs]; exact hu) hc.1, hfs]
          generalize fs.toList = l at h
          induction l generalizing b with
          | nil => cases h; simp [Op.eqFields]
          | cons f l ihl =>
            unfold eqFs at h
            split at h
            · cases h
            · rename_i hn
              split at h
              · rename_i a b' h1 h2
                cases h
                unfold Op.eqFields
                rw [if_pos hn]
                simp only [Sem.run_bind, part_of h1, part_of2 h1, Result.andThen_ok, ih _ _ _ _ w h1]
                cases a with
                | true => simpa using ihl _ h2
                | false => simp
              · cases h
        · cases h
      | array n e =>
        simp only at h ⊢
        split at h
        · rename_i hc
          have hn := hc.1
          have hie : ∃ i, P.info? e = some i := by
            have h0 : List.range n = 0 :: (List.range' 1 (n - 1)) := by
              rw [List.range_eq_range']
              cases n with
              | zero => exact absurd rfl hn
              | succ n => simp [List.range'_succ]
            rw [h0] at h
            unfold eqIs at h
            split at h
            · rename_i a b' h1 h2
              cases m with
              | zero => cases h1
              | succ m =>
                unfold eqF at h1
                cases hue : P.underlying e with
                | none => simp [hue] at h1
                | some _ => exact info_of_underlying hue
            · cases h
          obtain ⟨i, hi⟩ := hie
          rw [run_equalIn_array w (d + m) _ _ hu hi]
          generalize List.range n = l at h
          induction l generalizing b with
          | nil => cases h; simp [Op.eqItems]
          | cons j l ihl =>
            unfold eqIs at h
            split at h
            · rename_i a b' h1 h2
              cases h
              unfold Op.eqItems
              simp only [Sem.run_bind, part_of h1, part_of2 h1, Result.andThen_ok, ih _ _ _ _ w h1]
              cases a with
              | true => simpa using ihl _ h2
              | false => simp
            · cases h
        · cases h
      | _ => simp at h
end
section
variable {P : Program} {ops : Array Oper} {Q : Exit → Act → World → Prop} {n : Nat} {r : Regs} {ds : List Deferred} {W : World} {chg news : Blks} {rest : List Oper}
variable {d : Nat} {ty : TypeId} {pos : String} {after : Array Edge} {dst : Option Tmp} {gd : Option (Nat × Bool)}
/-- A type of structs or arrays that is compared without a guard. -/
def aggB (P : Program) (T : TypeId) : Bool := !P.eqGuardType P.depth T && match P.underlying T with | some (.struct _) => true | some (.array _ _) => true | _ => false
theorem aggB_spec {T : TypeId} (h : aggB P T = true) (cs : List Value) : P.eqGuardType P.depth T = false ∧ valOf P T cs = .agg cs.toArray := by
  simp only [aggB, Bool.and_eq_true, Bool.not_eq_true'] at h
  refine ⟨h.1, ?_⟩
  have h2 := h.2
  unfold valOf
  split at h2 <;> simp_all
theorem Val.eql_flat {x y : Operand} {T yt : TypeId} {cs es : List Value} {b : Bool} (hx : rev r x = some (.agg cs.toArray)) (hy : rev r y = some (.agg es.toArray)) (h : aggB P T = true) (he : eqF P 8 T cs es = some b) :
    Val P r W chg news { dst, op := .binOp .eql T x y yt, type := ty, pos, after, guard := gd } (.bool b) :=
  ⟨fun ac w ha _ => by
    have h1 := run_eqF 9992 8 T cs es b w he
    rw [(aggB_spec h cs).2, (aggB_spec h es).2] at h1
    have h2 : (Op.equal T (.agg cs.toArray) (.agg es.toArray)).run P w = .ok b w := h1
    simp [execOp, ha.eval hx, ha.eval hy, eqGuard, (aggB_spec h cs).1, binOp, h2]⟩
theorem Val.neq_flat {x y : Operand} {T yt : TypeId} {cs es : List Value} {b : Bool} (hx : rev r x = some (.agg cs.toArray)) (hy : rev r y = some (.agg es.toArray)) (h : aggB P T = true) (he : eqF P 8 T cs es = some b) :
    Val P r W chg news { dst, op := .binOp .neq T x y yt, type := ty, pos, after, guard := gd } (.bool (!b)) :=
  ⟨fun ac w ha _ => by
    have h1 := run_eqF 9992 8 T cs es b w he
    rw [(aggB_spec h cs).2, (aggB_spec h es).2] at h1
    have h2 : (Op.equal T (.agg cs.toArray) (.agg es.toArray)).run P w = .ok b w := h1
    simp [execOp, ha.eval hx, ha.eval hy, eqGuard, (aggB_spec h cs).1, binOp, h2]⟩
end
end Go.Eng
/- The engine: maps whose keys are numbers, and loops over them. No program is in sight. -/
namespace Go.Eng
open Go Go.RowKit
/-- The entries of a map whose keys are numbers, in the order in which they came. -/
def mEntsF : Nat → List (Int × Value) → List MapEntry
  | _, [] => []
  | i, x :: l => { key := .int .i64 x.1, val := x.2, born := i } :: mEntsF (i + 1) l
def mapO (l : List (Int × Value)) : Obj := .map (mEntsF 0 l).toArray l.length
def mIdx : List (Int × Value) → Int → Option (Nat × Value)
  | [], _ => none
  | x :: l, a => if x.1 = a then some (0, x.2) else (mIdx l a).map fun p => (p.1 + 1, p.2)
def mFind (l : List (Int × Value)) (a : Int) : Option Value := (mIdx l a).map (·.2)
theorem ents_len : ∀ (l : List (Int × Value)) (i : Nat), (mEntsF i l).length = l.length
  | [], _ => rfl
  | x :: l, i => by simp [mEntsF, ents_len l (i + 1)]
theorem ents_snoc : ∀ (l : List (Int × Value)) (i : Nat) (x : Int × Value), mEntsF i (l ++ [x]) = mEntsF i l ++ [{ key := .int .i64 x.1, val := x.2, born := i + l.length }]
  | [], i, x => by simp [mEntsF]
  | y :: l, i, x => by
    simp only [List.cons_append, mEntsF, ents_snoc l (i + 1) x, List.length_cons]
    rw [show i + 1 + l.length = i + (l.length + 1) by omega]
theorem ents_mem {e : MapEntry} : ∀ (l : List (Int × Value)) (i : Nat), e ∈ mEntsF i l → ∃ j, ∃ h : j < l.length, e = { key := .int .i64 l[j].1, val := l[j].2, born := i + j }
  | [], i, h => by cases h
  | x :: l, i, h => by
    simp only [mEntsF, List.mem_cons] at h
    rcases h with rfl | h
    · exact ⟨0, by simp, by simp⟩
    · obtain ⟨j, hj, rfl⟩ := ents_mem l (i + 1) h
      exact ⟨j + 1, by simp only [List.length_cons]; omega, by simp only [List.getElem_cons_succ]; rw [show i + 1 + j = i + (j + 1) by omega]⟩
theorem ents_in : ∀ (l : List (Int × Value)) (i j : Nat) (h : j < l.length), ({ key := .int .i64 l[j].1, val := l[j].2, born := i + j } : MapEntry) ∈ mEntsF i l
  | x :: l, i, 0, _ => by simp [mEntsF]
  | x :: l, i, j + 1, h => by
    have := ents_in l (i + 1) j (by simpa using h)
    simp only [mEntsF, List.mem_cons, List.getElem_cons_succ]
    right
    rw [show i + (j + 1) = i + 1 + j by omega]
    exact this
theorem findNow_ents (q : IntKind) (a : Int) : ∀ (l : List (Int × Value)) (i j : Nat), Instr.findNow (.int q) (.int .i64 a) (mEntsF i l) j = some ((mIdx l a).map fun p => (j + p.1, p.2))
  | [], _, _ => rfl
  | x :: l, i, j => by
    unfold mEntsF Instr.findNow mIdx
    by_cases h : x.1 = a
    · subst h; simp [Instr.sameNow]
    · have h2 : (a == x.1) = false := by simp; exact fun e => h e.symm
      simp only [Instr.sameNow, if_true, h2, h, if_false]
      rw [findNow_ents q a l (i + 1) (j + 1)]
      cases mIdx l a with
      | none => rfl
      | some p => simp; omega
/-- A map type whose keys are whole numbers: the type of its elements. -/
def mapB (P : Program) (T : TypeId) : Option TypeId := match P.underlying T with
  | some (.map k e) => if (P.underlying k).any isIntD then some e else none
  | _ => none
def zeroV (P : Program) (E : TypeId) : Option Value := (P.info? E).bind (·.zero)
theorem mapB_spec {P : Program} {T E : TypeId} (h : mapB P T = some E) : ∃ k q, P.underlying T = some (.map k E) ∧ P.underlying k = some (.int q) := by
  unfold mapB at h
  split at h
  · rename_i k e hu
    split at h
    · rename_i hk
      obtain ⟨q, hq⟩ := any_int hk
      cases h
      exact ⟨k, q, hu, hq⟩
    · cases h
  · cases h
section
variable {P : Program} {ops : Array Oper} {Q : Exit → Act → World → Prop} {n : Nat} {r : Regs} {ds : List Deferred} {W : World} {chg news : Blks} {rest : List Oper}
variable {d : Nat} {ty : TypeId} {pos : String} {after : Array Edge} {dst : Option Tmp} {gd : Option (Nat × Bool)}
theorem run_lookup_num {w : World} {T E : TypeId} {b : Nat} {l : List (Int × Value)} {a : Int} {z : Value} {ok : Bool} (hb : w.heap[b]? = some (mapO l)) (hT : mapB P T = some E) (hz : zeroV P E = some z) :
    (Instr.lookup T (.map (some b)) (.int .i64 a) ok).run P w = .ok (if ok then .tuple #[(mFind l a).getD z, .bool (mFind l a).isSome] else (mFind l a).getD z) w := by
  obtain ⟨k, q, hu, hq⟩ := mapB_spec hT
  have hzz : (zeroValue E).run P w = .ok z w := by
    unfold zeroV at hz
    cases hi : P.info? E with
    | none => simp [hi] at hz
    | some i =>
      simp [hi] at hz
      simp [zeroValue, typeInfo, hi, hz]
  have hf : (Instr.findKey k (.int .i64 a) (mEntsF 0 l)).run P w = .ok (mIdx l a) w := by
    have := findNow_ents q a l 0 0
    refine (MapKept.run_findKey hq this).trans ?_
    cases mIdx l a <;> simp
  have hc : ∀ e, (Instr.checkKey e 10000 k (.int .i64 a)).run P w = .ok () w := fun e => by
    rw [show (10000 : Nat) = 9999 + 1 from rfl]
    unfold Instr.checkKey
    simp [run_underlying hq]
  unfold mapO at hb
  unfold mFind
  simp only [Instr.lookup, Sem.run_bind, run_underlying hu, Result.andThen_ok, MapKept.run_getObj_map hb, Sem.run_pure]
  rw [hc]
  simp only [Result.andThen_ok, hf]
  cases h : mIdx l a with
  | none => cases ok <;> simp [hzz]
  | some p => cases ok <;> simp
theorem Val.lookup {x i : Operand} {T E : TypeId} {b : Nat} {l : List (Int × Value)} {a : Int} {z : Value} (hx : rev r x = some (.map (some b))) (hi : rev r i = some (.int .i64 a)) (hb : ∀ w, Mem W chg news w → w.heap[b]? = some (mapO l)) (hT : mapB P T = some E) (hz : zeroV P E = some z) :
    Val P r W chg news { dst, op := .lookup T x i false, type := ty, pos, after, guard := gd } ((mFind l a).getD z) :=
  ⟨fun ac w ha hm => by
    have h1 := run_lookup_num (P := P) (ok := false) (a := a) (hb w hm) hT hz
    simp at h1
    simp [execOp, ha.eval hx, ha.eval hi, h1]⟩
theorem Val.lookupOk {x i : Operand} {T E : TypeId} {b : Nat} {l : List (Int × Value)} {a : Int} {z : Value} (hx : rev r x = some (.map (some b))) (hi : rev r i = some (.int .i64 a)) (hb : ∀ w, Mem W chg news w → w.heap[b]? = some (mapO l)) (hT : mapB P T = some E) (hz : zeroV P E = some z) :
    Val P r W chg news { dst, op := .lookup T x i true, type := ty, pos, after, guard := gd } (.tuple #[(mFind l a).getD z, .bool (mFind l a).isSome]) :=
  ⟨fun ac w ha hm => by
    have h1 := run_lookup_num (P := P) (ok := true) (a := a) (hb w hm) hT hz
    simp at h1
    simp [execOp, ha.eval hx, ha.eval hi, h1]⟩
theorem Val.lookupE {x i : Operand} {T E : TypeId} {b : Nat} {l : List (Int × Value)} {a : Int} {z : Value} {o : Option Value} (hx : rev r x = some (.map (some b))) (hi : rev r i = some (.int .i64 a)) (hb : ∀ w, Mem W chg news w → w.heap[b]? = some (mapO l)) (hT : mapB P T = some E) (hz : zeroV P E = some z) (ho : mFind l a = o) :
    Val P r W chg news { dst, op := .lookup T x i false, type := ty, pos, after, guard := gd } (o.getD z) := ho ▸ Val.lookup hx hi hb hT hz
theorem Val.lookupOkE {x i : Operand} {T E : TypeId} {b : Nat} {l : List (Int × Value)} {a : Int} {z : Value} {o : Option Value} (hx : rev r x = some (.map (some b))) (hi : rev r i = some (.int .i64 a)) (hb : ∀ w, Mem W chg news w → w.heap[b]? = some (mapO l)) (hT : mapB P T = some E) (hz : zeroV P E = some z) (ho : mFind l a = o) :
    Val P r W chg news { dst, op := .lookup T x i true, type := ty, pos, after, guard := gd } (.tuple #[o.getD z, .bool o.isSome]) := ho ▸ Val.lookupOk hx hi hb hT hz
theorem Val.lookupV {x i : Operand} {T E : TypeId} {b : Nat} {l : List (Int × Value)} {a : Int} {z v : Value} (hx : rev r x = some (.map (some b))) (hi : rev r i = some (.int .i64 a)) (hb : ∀ w, Mem W chg news w → w.heap[b]? = some (mapO l)) (hT : mapB P T = some E) (hz : zeroV P E = some z) (ho : (mFind l a).getD z = v) :
    Val P r W chg news { dst, op := .lookup T x i false, type := ty, pos, after, guard := gd } v := ho ▸ Val.lookup hx hi hb hT hz
theorem Val.lookupOkV {x i : Operand} {T E : TypeId} {b : Nat} {l : List (Int × Value)} {a : Int} {z v : Value} (hx : rev r x = some (.map (some b))) (hi : rev r i = some (.int .i64 a)) (hb : ∀ w, Mem W chg news w → w.heap[b]? = some (mapO l)) (hT : mapB P T = some E) (hz : zeroV P E = some z) (ho : Value.tuple #[(mFind l a).getD z, .bool (mFind l a).isSome] = v) :
    Val P r W chg news { dst, op := .lookup T x i true, type := ty, pos, after, guard := gd } v := ho ▸ Val.lookupOk hx hi hb hT hz
theorem New.makeMap {T : TypeId} : New P r W chg news { dst, op := .makeMap T none, type := ty, pos, after, guard := gd } (fun b => .map (some b)) (mapO []) :=
  ⟨fun a w _ _ => by simp [execOp, Instr.makeMap, newObj, Sem.run, mapO, mEntsF]⟩
theorem run_mapUpdate_num {w : World} {T E : TypeId} {b : Nat} {l : List (Int × Value)} {a : Int} {v : Value} (hb : w.heap[b]? = some (mapO l)) (hT : mapB P T = some E) (hk : mIdx l a = none) :
    (Instr.mapUpdate T (.map (some b)) (.int .i64 a) v).run P w = .ok () { w with heap := w.heap.setIfInBounds b (mapO (l ++ [(a, v)])) } := by
  obtain ⟨k, q, hu, hq⟩ := mapB_spec hT
  have hf : (Instr.findKey k (.int .i64 a) (mEntsF 0 l)).run P w = .ok none w := by
    have := findNow_ents q a l 0 0
    rw [hk] at this
    exact MapKept.run_findKey hq this
  have hc : ∀ e, (Instr.checkKey e 10000 k (.int .i64 a)).run P w = .ok () w := fun e => by
    rw [show (10000 : Nat) = 9999 + 1 from rfl]
    unfold Instr.checkKey
    simp [run_underlying hq]
  have e1 : mapO (l ++ [(a, v)]) = .map ((mEntsF 0 l).toArray.push { key := .int .i64 a, val := v, born := l.length }) (l.length + 1) := by
    unfold mapO
    rw [ents_snoc]
    simp
  unfold mapO at hb
  rw [e1]
  simp only [Instr.mapUpdate, Sem.run_bind, run_underlying hu, Result.andThen_ok, MapKept.run_getObj_map hb, hc, hf, MapKept.run_setObj_map _ hb]
theorem heap_set_spec {w : World} {b : Nat} {o o' : Obj} (hb : w.heap[b]? = some o) : ({ w with heap := w.heap.setIfInBounds b o' } : World).heap[b]? = some o' ∧ ∀ k, k ≠ b → ({ w with heap := w.heap.setIfInBounds b o' } : World).heap[k]? = w.heap[k]? := by
  have hlt := (Array.getElem?_eq_some_iff.1 hb).1
  refine ⟨by simp [hlt], fun k hk => ?_⟩
  show (w.heap.setIfInBounds b o')[k]? = _
  rw [Array.getElem?_setIfInBounds, if_neg (fun e => hk e.symm)]
theorem Sto.mapNew {x i y : Operand} {T E : TypeId} {b : Nat} {l : List (Int × Value)} {a : Int} {v : Value} {news' : Blks} (hx : rev r x = some (.map (some b))) (hi : rev r i = some (.int .i64 a)) (hy : rev r y = some v) (hu : Upd news b (mapO l) (mapO (l ++ [(a, v)])) news') (hT : mapB P T = some E) (hk : mIdx l a = none) :
    Sto P r W chg news { dst, op := .mapUpdate T x i y, type := ty, pos, after, guard := gd } chg news' :=
  ⟨fun ac w ha hm => by
    have hb := (hm.newd _ _ hu.mem).2
    obtain ⟨s1, s2⟩ := heap_set_spec (o' := mapO (l ++ [(a, v)])) hb
    refine ⟨{ w with heap := w.heap.setIfInBounds b (mapO (l ++ [(a, v)])) }, by simp [execOp, ha.eval hx, ha.eval hi, ha.eval hy, run_mapUpdate_num hb hT hk], hm.upd_new hu rfl rfl rfl (by simp) (fun k _ hk => s2 k hk) s1⟩⟩
theorem Sto.mapNew_chg {x i y : Operand} {T E : TypeId} {b : Nat} {l : List (Int × Value)} {a : Int} {v : Value} {chg' : Blks} (hx : rev r x = some (.map (some b))) (hi : rev r i = some (.int .i64 a)) (hy : rev r y = some v) (hu : Upd chg b (mapO l) (mapO (l ++ [(a, v)])) chg') (hT : mapB P T = some E) (hk : mIdx l a = none) :
    Sto P r W chg news { dst, op := .mapUpdate T x i y, type := ty, pos, after, guard := gd } chg' news :=
  ⟨fun ac w ha hm => by
    have hb := (hm.chgd _ _ hu.mem).2
    obtain ⟨s1, s2⟩ := heap_set_spec (o' := mapO (l ++ [(a, v)])) hb
    refine ⟨{ w with heap := w.heap.setIfInBounds b (mapO (l ++ [(a, v)])) }, by simp [execOp, ha.eval hx, ha.eval hi, ha.eval hy, run_mapUpdate_num hb hT hk], hm.upd_chg hu rfl rfl rfl (by simp) (fun k _ hk => s2 k hk) s1⟩⟩
/-- What a loop over a map has of it: the entries that have come, in whatever order. -/
def itO (m : Nat) (l : List (Int × Value)) (x : List Nat) : Obj := .mapIter (some m) l.length x.toArray l.length
theorem New.range {x : Operand} {T E : TypeId} {m : Nat} {l : List (Int × Value)} (hx : rev r x = some (.map (some m))) (hb : ∀ w, Mem W chg news w → w.heap[m]? = some (mapO l)) (hT : mapB P T = some E) :
    New P r W chg news { dst, op := .range T x, type := ty, pos, after, guard := gd } (fun b => .pointer (some ⟨b, 0, none⟩)) (itO m l []) :=
  ⟨fun a w ha hm => by
    obtain ⟨k, q, hu, hq⟩ := mapB_spec hT
    have hb' : w.heap[m]? = some (.map (mEntsF 0 l).toArray l.length) := hb w hm
    simp [execOp, ha.eval hx, Instr.range, run_underlying hu, MapKept.run_getObj_map hb', newObj, Sem.run, itO]⟩
theorem RunL.next {it : Operand} {rb m : Nat} {l : List (Int × Value)} {x : List Nat} {news' : Nat → Blks} (hx : rev r it = some (.pointer (some ⟨rb, 0, none⟩))) (hm0 : ∀ w, Mem W chg news w → w.heap[m]? = some (mapO l)) (hu : ∀ i, Upd news rb (itO m l x) (itO m l (x ++ [i])) (news' i)) (hn : Nat.ble (d + 1) n = true)
    (h1 : ∀ i (hi : i < l.length), i ∉ x → RunL P ops Q n rest ((d, .tuple #[.bool true, .int .i64 l[i].1, l[i].2]) :: r) ds W chg (news' i))
    (h2 : (∀ i, i < l.length → i ∈ x) → RunL P ops Q n rest ((d, .tuple #[.bool false]) :: r) ds W chg news) :
    RunL P ops Q n ({ dst := some d, op := .next it false, type := ty, pos, after, guard := none } :: rest) r ds W chg news := fun a w s =>
  wpList_plain rfl fun K hK => by
    have hr : w.heap[rb]? = some (.mapIter (some m) l.length x.toArray l.length) := (s.mem.newd _ _ (hu 0).mem).2
    have hb : w.heap[m]? = some (.map (mEntsF 0 l).toArray l.length) := hm0 w s.mem
    have hev := s.agree.eval hx
    have hlt : ∀ e ∈ (mEntsF 0 l).toArray.toList, e.born < l.length := fun e he => by
      obtain ⟨j, hj, rfl⟩ := ents_mem l 0 (by simpa using he)
      simpa using hj
    unfold Oper.wp
    rcases run_next_at (P := P) w ty rb m l.length l.length x.toArray (mEntsF 0 l).toArray l.length hr hb hlt (Nat.le_refl _) with ⟨h0, hrun⟩ | ⟨e, he, w1, hw1, hrun⟩
    · simp [execOp, hev, hrun]
      refine hK _ _ (h2 (fun i hi => ?_) _ _ (s.put (Nat.le_of_ble_eq_true hn) _))
      by_cases hc : i ∈ x
      · exact hc
      · exfalso
        have hin : ({ key := .int .i64 l[i].1, val := l[i].2, born := 0 + i } : MapEntry) ∈ leftOf (mEntsF 0 l).toArray x.toArray := by
          unfold leftOf
          simp only [Array.mem_filter, List.mem_toArray]
          exact ⟨ents_in l 0 i hi, by simpa using hc⟩
        have := Array.size_pos_of_mem hin
        omega
    · have he2 : e ∈ (mEntsF 0 l) ∧ e.born ∉ x := by
        have h3 : e ∈ leftOf (mEntsF 0 l).toArray x.toArray := by simpa using he
        unfold leftOf at h3
        simp only [Array.mem_filter, List.mem_toArray] at h3
        exact ⟨h3.1, by simpa using h3.2⟩
      obtain ⟨j, hj, rfl⟩ := ents_mem l 0 he2.1
      have hjx : j ∉ x := by simpa using he2.2
      simp [execOp, hev, hrun]
      refine hK _ _ (h1 j hj hjx _ _ ?_)
      have s2 := s.put (Nat.le_of_ble_eq_true hn) (.tuple #[.bool true, .int .i64 l[j].1, l[j].2])
      have hr1 : w1.heap[rb]? = some (.mapIter (some m) l.length x.toArray l.length) := by rcases hw1 with rfl | rfl <;> exact hr
      obtain ⟨q1, q2⟩ := heap_set_spec (o' := itO m l (x ++ [j])) hr1
      have hmem1 : Mem W chg news w1 := by
        rcases hw1 with rfl | rfl
        · exact s.mem
        · exact s.mem.drew
      refine ⟨s2.size, s2.agree, s2.defers, ?_⟩
      have e1 : ChangeMaps.setBlock w1 rb (.mapIter (some m) l.length (x ++ [j]).toArray l.length) = { w1 with heap := w1.heap.setIfInBounds rb (itO m l (x ++ [j])) } := by
        simp [ChangeMaps.setBlock, itO]
      rw [e1]
      exact hmem1.upd_new (hu j) rfl rfl rfl (by simp) (fun k _ hk => q2 k hk) q1
theorem ents_nodup : ∀ (l : List (Int × Value)) (i : Nat), ((mEntsF i l).map (·.born)).Nodup ∧ ∀ b ∈ (mEntsF i l).map (·.born), i ≤ b
  | [], _ => by simp [mEntsF]
  | x :: l, i => by
    obtain ⟨h1, h2⟩ := ents_nodup l (i + 1)
    simp only [mEntsF, List.map_cons, List.nodup_cons, List.mem_cons, forall_eq_or_imp]
    exact ⟨⟨fun h => by have := h2 _ h; omega, h1⟩, Nat.le_refl _, fun b hb => by have := h2 b hb; omega⟩
/-- The entry to which a loop has come. -/
theorem Val.entry {x : Operand} {rb m i : Nat} {l : List (Int × Value)} {xs : List Nat} (hx : rev r x = some (.pointer (some ⟨rb, 0, none⟩))) (hr : ∀ w, Mem W chg news w → w.heap[rb]? = some (itO m l (xs ++ [i]))) (hm0 : ∀ w, Mem W chg news w → w.heap[m]? = some (mapO l)) (hi : i < l.length) :
    Val P r W chg news { dst, op := .entry x, type := ty, pos, after, guard := gd } (.tuple #[.int .i64 l[i].1, l[i].2]) :=
  ⟨fun a w ha hm => by
    have h1 : w.heap[rb]? = some (.mapIter (some m) l.length (xs.toArray.push (0 + i)) l.length) := by rw [hr w hm]; simp [itO]
    have h2 : w.heap[m]? = some (.map (mEntsF 0 l).toArray l.length) := hm0 w hm
    have := run_entry_at (P := P) w rb m l.length xs.toArray (mEntsF 0 l).toArray l.length { key := .int .i64 l[i].1, val := l[i].2, born := 0 + i } h1 h2 (by simpa using ents_in l 0 i hi) (by simpa using (ents_nodup l 0).1)
    simp [execOp, ha.eval hx, this]⟩
/-- A whole array as a slice. -/
theorem Val.sliceArr {x : Operand} {T : TypeId} {len sz b o : Nat} (hx : rev r x = some (.pointer (some ⟨b, o, none⟩))) (hT : arrB P T = some (len + 1, sz)) :
    Val P r W chg news { dst, op := .slice T x none none none, type := ty, pos, after, guard := gd } (.slice (some ⟨b, o, none⟩) (len + 1) (len + 1)) :=
  ⟨fun a w ha _ => by
    unfold arrB at hT
    split at hT
    · rename_i m e hu
      cases hj : P.info? e with
      | none => simp [hj] at hT
      | some j =>
        simp [hj] at hT
        obtain ⟨rfl, rfl⟩ := hT
        simp [execOp, ha.eval hx, Instr.sliceAt, Instr.sureAddr, Instr.sliceBounds, run_underlying hu, sizeOf, typeInfo, hj, add_plain]
    · cases hT⟩
/-- The method of what lies in an interface, as a value: there is a receiver. -/
theorem Val.nilMeth {x : Operand} {name : String} {first cap : Array Value} {T : TypeId} {v : Value} (hx : rev r x = some (.func (.method name) first cap)) (hf : first[0]? = some (.iface T v)) (hn : ∀ w, (nilAhead (P.types.size + Made.depth) T v name).run P w = .ok (some false) w) :
    Val P r W chg news { dst, op := .nilCheck x, type := ty, pos, after, guard := gd } (.func (.method name) first cap) :=
  ⟨fun a w ha _ => by
    have h1 := hn w
    simp [execOp, ha.eval hx, hf, h1]⟩
theorem Val.entryV {x : Operand} {rb m i : Nat} {l : List (Int × Value)} {xs : List Nat} {v : Value} (hx : rev r x = some (.pointer (some ⟨rb, 0, none⟩))) (hr : ∀ w, Mem W chg news w → w.heap[rb]? = some (itO m l (xs ++ [i]))) (hm0 : ∀ w, Mem W chg news w → w.heap[m]? = some (mapO l)) (hi : i < l.length) (hv : Value.tuple #[.int .i64 l[i].1, l[i].2] = v) :
    Val P r W chg news { dst, op := .entry x, type := ty, pos, after, guard := gd } v := hv ▸ Val.entry hx hr hm0 hi
end
/-- The entries that a loop has met. -/
structure Vis (n k : Nat) (x : List Nat) : Prop where
  nd : x.Nodup
  lt : ∀ i ∈ x, i < n
  len : x.length = k
theorem Vis.nil {n : Nat} : Vis n 0 [] := ⟨List.nodup_nil, fun i h => (by cases h), rfl⟩
theorem nodup_le : ∀ (n : Nat) (x : List Nat), x.Nodup → (∀ i ∈ x, i < n) → x.length ≤ n
  | 0, x, _, h => by
    cases x with
    | nil => simp
    | cons a x => exact absurd (h a (by simp)) (by omega)
  | n + 1, x, hn, h => by
    by_cases hm : n ∈ x
    · have h1 := nodup_le n (x.erase n) (hn.erase n) (fun i hi => by
        have h2 := (List.Nodup.mem_erase_iff hn).1 hi
        have := h i h2.2
        have := h2.1
        omega)
      rw [List.length_erase_of_mem hm] at h1
      omega
    · have := nodup_le n x hn (fun i hi => by
        have := h i hi
        have : i ≠ n := fun e => hm (e ▸ hi)
        omega)
      omega
theorem Vis.snoc {n k i : Nat} {x : List Nat} (h : Vis n k x) (hi : i < n) (hx : i ∉ x) : Vis n (k + 1) (x ++ [i]) :=
  ⟨List.nodup_append.2 ⟨h.nd, by simp, fun a ha b hb => by cases List.mem_singleton.1 hb; exact fun e => hx (e ▸ ha)⟩, fun j hj => by
    rcases List.mem_append.1 hj with hj | hj
    · exact h.lt j hj
    · cases List.mem_singleton.1 hj; exact hi, by simp [h.len]⟩
theorem Vis.more {n k i : Nat} {x : List Nat} (h : Vis n k x) (hi : i < n) (hx : i ∉ x) : k < n := by
  have := nodup_le n _ (h.snoc hi hx).nd (h.snoc hi hx).lt
  rw [(h.snoc hi hx).len] at this
  omega
end Go.Eng
/- The engine: ways in the forced tail of a region that draws; max and min of three numbers. -/
namespace Go.Eng
open Go
variable {P : Program} {r : Regs} {W : World} {chg news : Blks}
theorem RunB.ways {ops : Array Oper} {Q : Exit → Act → World → Prop} {n : Nat} {ds : List Deferred} {fuel : Nat} {listed : Array Bool} {b : Bool} {dj : Nat} (hj : rget r dj = some (.bool b)) (h1 : b = true → RunB P ops Q n fuel listed ((dj, .bool true) :: r) ds W chg news)
    (h2 : b = false → RunB P ops Q n fuel listed ((dj, .bool false) :: r) ds W chg news) : RunB P ops Q n fuel listed r ds W chg news := fun a w s => by
  cases b with
  | true => exact h1 rfl a w (s.know hj rfl)
  | false => exact h2 rfl a w (s.know hj rfl)
section
variable {ty : TypeId} {pos : String} {after : Array Edge} {dst : Option Tmp} {gd : Option (Nat × Bool)}
theorem Val.max3 {x y z : Operand} {ats : Array TypeId} {k k' k2 : IntKind} {p q s : Int} (hx : rev r x = some (.int k p)) (hy : rev r y = some (.int k' q)) (hz : rev r z = some (.int k2 s)) :
    Val P r W chg news { dst, op := .call { callee := .builtin .max, args := #[x, y, z], argTypes := ats }, type := ty, pos, after, guard := gd } (.int k (Max.max (Max.max p q) s)) :=
  ⟨fun a w ha hm0 => by
    rw [BigFrame.execOp_builtin, BigFrame.builtin_max]
    have e : (if q > p then q else p) = Max.max p q := by rw [Int.max_def]; split <;> split <;> omega
    have e2 : (if s > Max.max p q then s else Max.max p q) = Max.max (Max.max p q) s := by rw [Int.max_def (Max.max p q) s]; split <;> split <;> omega
    simp [ha.eval hx, ha.eval hy, ha.eval hz, Builtin.max_, Builtin.max2, e, e2]⟩
theorem Val.min3 {x y z : Operand} {ats : Array TypeId} {k k' k2 : IntKind} {p q s : Int} (hx : rev r x = some (.int k p)) (hy : rev r y = some (.int k' q)) (hz : rev r z = some (.int k2 s)) :
    Val P r W chg news { dst, op := .call { callee := .builtin .min, args := #[x, y, z], argTypes := ats }, type := ty, pos, after, guard := gd } (.int k (Min.min (Min.min p q) s)) :=
  ⟨fun a w ha hm0 => by
    rw [BigFrame.execOp_builtin, BigFrame.builtin_min]
    have e : (if q < p then q else p) = Min.min p q := by rw [Int.min_def]; split <;> split <;> omega
    have e2 : (if s < Min.min p q then s else Min.min p q) = Min.min (Min.min p q) s := by rw [Int.min_def (Min.min p q) s]; split <;> split <;> omega
    simp [ha.eval hx, ha.eval hy, ha.eval hz, Builtin.min_, Builtin.min2, e, e2]⟩
end
end Go.Eng
/- The engine: strings, by the lists of their bytes; bytes of a string as a new block; maps whose keys are pairs. No program is in sight. -/
namespace Go.Eng
open Go Go.RowKit
def bs (l : List UInt8) : ByteArray := ⟨⟨l⟩⟩
theorem bs_of (s : ByteArray) : s = bs s.data.toList := rfl
theorem bs_size (l : List UInt8) : (bs l).size = l.length := rfl
theorem bs_inj {a b : List UInt8} : bs a = bs b ↔ a = b := ⟨fun h => congrArg (fun s => s.data.toList) h, fun h => by rw [h]⟩
theorem bs_toList (l : List UInt8) : (bs l).toList = l := ByteArray.toList_mk l
def byteV (c : UInt8) : Value := .int .u8 c.toNat
theorem bs_extract (l : List UInt8) (a b : Nat) : (bs l).extract a b = bs ((l.drop a).take (b - a)) := by
  rw [ByteArray.ext_iff, ByteArray.data_extract]
  show (l.toArray).extract a b = ((l.drop a).take (b - a)).toArray
  rw [List.extract_toArray, List.extract_eq_take_drop]
theorem bs_append (a b : List UInt8) : bs a ++ bs b = bs (a ++ b) := by
  rw [ByteArray.ext_iff, ByteArray.data_append]
  simp [bs]
structure NewX {β : Type} (P : Program) (r : Regs) (W : World) (chg news : Blks) (o : Oper) (v : β → Nat → Value) (ob : β → Obj) (I : β → Prop) : Prop where
  run : ∀ a w, Agree a r → Mem W chg news w → ∃ x, I x ∧ ((execOp a.eval o).run P w = .ok (.value (v x w.heap.size)) (w.alloc (ob x)) ∨ (execOp a.eval o).run P w = .ok (.value (v x w.heap.size)) (w.drew.alloc (ob x)))
section
variable {P : Program} {ops : Array Oper} {Q : Exit → Act → World → Prop} {n : Nat} {r : Regs} {ds : List Deferred} {W : World} {chg news : Blks} {rest : List Oper}
variable {d : Nat} {ty : TypeId} {pos : String} {after : Array Edge} {dst : Option Tmp} {gd : Option (Nat × Bool)}
theorem RunL.newX {β : Type} {o : Oper} {v : β → Nat → Value} {ob : β → Obj} {I : β → Prop} (hv : NewX P r W chg news o v ob I) (hg : guardB ops r o.guard = some true) (hd : o.dst = some d) (hn : Nat.ble (d + 1) n = true)
    (h : ∀ x, I x → ∀ b, RunL P ops Q n rest ((d, v x b) :: r) ds W chg ((b, ob x) :: news)) : RunL P ops Q n (o :: rest) r ds W chg news := fun a w s =>
  wpList_yes (guardB_spec s.agree hg) fun K hK => by
    obtain ⟨x, hx, hr⟩ := hv.run a w s.agree s.mem
    have s2 := s.put (Nat.le_of_ble_eq_true hn) (v x w.heap.size)
    unfold Oper.wp
    rcases hr with hr | hr
    · rw [hr, Oper.upon_value, hd]
      exact hK _ _ (h x hx _ _ _ ⟨s2.size, s2.agree, s2.defers, s.mem.alloc (ob x)⟩)
    · rw [hr, Oper.upon_value, hd]
      exact hK _ _ (h x hx _ _ _ ⟨s2.size, s2.agree, s2.defers, s.mem.drew.alloc (ob x)⟩)
variable {i : Nat} {K : Act → World → Prop}
theorem RunI.newX {β : Type} {o : Oper} {v : β → Nat → Value} {ob : β → Obj} {I : β → Prop} (ho : ops[i]? = some o) (hv : NewX P r W chg news o v ob I) (hg : guardB ops r o.guard = some true) (hd : o.dst = some d) (hn : Nat.ble (d + 1) n = true)
    (h : ∀ x, I x → ∀ b, RunK n K ((d, v x b) :: r) ds W chg ((b, ob x) :: news)) : RunI P ops Q n i K r ds W chg news := fun a w s => by
  obtain ⟨x, hx, hr⟩ := hv.run a w s.agree s.mem
  have s2 := s.put (Nat.le_of_ble_eq_true hn) (v x w.heap.size)
  unfold wpOp
  rcases hr with hr | hr
  · simp only [ho, guardB_spec s.agree hg, if_true, Oper.wp, hr, Oper.upon_value, hd]
    exact .inl (h x hx _ _ _ ⟨s2.size, s2.agree, s2.defers, s.mem.alloc (ob x)⟩)
  · simp only [ho, guardB_spec s.agree hg, if_true, Oper.wp, hr, Oper.upon_value, hd]
    exact .inl (h x hx _ _ _ ⟨s2.size, s2.agree, s2.defers, s.mem.drew.alloc (ob x)⟩)
/-- The bytes of a string, in a block of their own, with some zeros behind. -/
def bytesO (e : TypeId) (l : List Value) (p : Nat) : Obj := Obj.cells (l ++ List.replicate p (Value.int .u8 0)).toArray e (l.length + p, l.length + p + 1)
theorem NewX.bytes {x : Operand} {S T e : TypeId} {l : List UInt8} (hx : rev r x = some (.string (bs l))) (hS : P.underlying S = some .string) (hT : P.underlying T = some (.slice e)) (he : P.underlying e = some (.int .u8)) :
    NewX P r W chg news { dst, op := .convert S T x, type := ty, pos, after, guard := gd } (fun p b => .slice (some ⟨b, 0, none⟩) l.length (l.length + p)) (fun p => bytesO e (l.map byteV) p) (fun _ : Nat => True) :=
  ⟨fun a w ha _ => by
    refine ⟨(Question.appendCap l.length 0 e).cut (w.tape w.drawn (Question.appendCap l.length 0 e)) - l.length, trivial, .inr ?_⟩
    have hc : l.length ≤ (Question.appendCap l.length 0 e).cut (w.tape w.drawn (Question.appendCap l.length 0 e)) := by simp [Question.cut]
    generalize hq : (Question.appendCap l.length 0 e).cut (w.tape w.drawn (Question.appendCap l.length 0 e)) = q at hc ⊢
    have hf : (Question.appendCap l.length 0 e).forced = false := rfl
    have hb : (bs l).size = l.length := rfl
    simp only [execOp, ha.eval hx, convert, Sem.run_bind, run_underlying hS, run_underlying hT, Result.andThen_ok, Sem.run_pure, run_underlying he]
    simp only [Conv.stringToBytes, hb, Sem.run_bind, run_choose_drew, hf, hq, Result.andThen_ok, Sem.run_pure]
    have e1 : Array.map (fun b : UInt8 => Value.int IntKind.u8 (b.toNat : Int)) (bs l).data ++ Array.replicate (q - l.length) (Value.int IntKind.u8 0) = (l.map byteV ++ List.replicate (q - l.length) (Value.int .u8 0)).toArray := by
      simp [bs, byteV]
    have e2 : ((l.map byteV ++ List.replicate (q - l.length) (Value.int .u8 0)).toArray).size = q := by simp; omega
    have e3 : l.length + (q - l.length) = q := by omega
    simp only [Bool.false_eq_true, if_false, Result.andThen_ok, e1]
    generalize hX : (l.map byteV ++ List.replicate (q - l.length) (Value.int .u8 0)).toArray = X at e2 ⊢
    have h4 : (newRow e X).run P w.drew = .ok ⟨w.heap.size, 0, none⟩ (w.drew.alloc (.cells X e)) := by simp [newRow]
    have h5 : (markStringish ⟨w.heap.size, 0, none⟩).run P (w.drew.alloc (.cells X e)) = .ok () (w.drew.alloc (.cells X e (q, q + 1))) := by
      have h6 : (w.drew.alloc (.cells X e)).shape? w.heap.size = some (e, q) := by
        have h8 : (w.drew.alloc (.cells X e)).heap[w.heap.size]? = some (.cells X e) := by
          show (w.heap.push (Obj.cells X e))[w.heap.size]? = _
          simp
        unfold World.shape?
        rw [h8]
        simp only [e2]
      have h7 : (w.drew.alloc (.cells X e)).freeze { block := w.heap.size, off := q } 1 = w.drew.alloc (.cells X e (q, q + 1)) := by
        unfold World.freeze
        rw [if_neg (by decide)]
        show ({ w with drawn := w.drawn + 1, heap := (w.heap.push (Obj.cells X e)).modify w.heap.size _ } : World) = { w with drawn := w.drawn + 1, heap := w.heap.push (Obj.cells X e (q, q + 1)) }
        congr 1
        refine Array.ext (by simp) fun i h1 h2 => ?_
        simp only [Array.getElem_modify]
        by_cases hi : w.heap.size = i
        · subst hi; simp
        · have : i < w.heap.size := by simp at h2; omega
          simp [hi, Array.getElem_push, this]
      simp [markStringish, h6, h7]
    simp only [h4, Result.andThen_ok, h5, e3]
    subst hX
    simp [bytesO, e3]⟩
/-! ### Operations on strings -/
/-- A call of a function without a body, that the model knows. -/
theorem Val.ext {f : FuncId} {fn : Func} {e : Array Value → Sem Value} {xs : List Operand} {vs : List Value} {ats : Array TypeId} {v : Value} (hf : P.funcs[f]? = some fn) (hname : (fn.name == "runtime.NumGoroutine") = false) (hb : fn.body.isNone = true) (hn : Extern.findNext fn = none) (he : Extern.find fn = some e)
    (hx : revs r xs = some vs) (hv : ∀ w, (e vs.toArray).run P w = .ok v w) :
    Val P r W chg news { dst, op := .call { callee := .value (.func f), args := xs.toArray, argTypes := ats }, type := ty, pos, after, guard := gd } v :=
  ⟨fun a w ha _ => by
    have h1 := ha.evals hx
    have h2 := run_callFunc_extern hf hname hb hn he vs.toArray w
    rw [hv w] at h2
    simp [execOp, resolve, h1, Deferred.ofValue, Act.eval, invoke]
    exact h2⟩
theorem Val.lenS {x : Operand} {T : TypeId} {l : List UInt8} (hx : rev r x = some (.string (bs l))) (hT : P.underlying T = some .string) {ats : Array TypeId} (_h : ats = #[T] := by rfl) :
    Val P r W chg news { dst, op := .call { callee := .builtin .len, args := #[x], argTypes := ats }, type := ty, pos, after, guard := gd } (.int .i64 (l.length : Int)) := by
  subst _h
  exact Val.len_str hx hT
theorem Val.strIndex {x y : Operand} {T : TypeId} {l : List UInt8} {k : IntKind} {i : Int} {c : UInt8} (hx : rev r x = some (.string (bs l))) (hy : rev r y = some (.int k i)) (hT : P.underlying T = some .string) (h0 : 0 ≤ i) (hc : l[i.toNat]? = some c) :
    Val P r W chg news { dst, op := .index T x y, type := ty, pos, after, guard := gd } (byteV c) :=
  ⟨fun a w ha _ => by
    obtain ⟨hi, he⟩ := List.getElem?_eq_some_iff.1 hc
    have h1 := run_index_string (P := P) w T (bs l) k i hT
    rw [dif_pos ⟨h0, by rw [bs_size]; omega⟩] at h1
    have h2 : (bs l)[i.toNat]'(by rw [bs_size]; exact hi) = c := he
    rw [h2] at h1
    simp [execOp, ha.eval hx, ha.eval hy, h1, byteV]⟩
theorem Val.mulN {x y : Operand} {T yt : TypeId} {k : IntKind} {a b : Nat} (c : Nat) (hx : rev r x = some (.int k (a : Int))) (hy : rev r y = some (.int k (b : Int))) (hc : a * b = c) (hr : k.wrap (c : Int) = (c : Int)) :
    Val P r W chg news { dst, op := .binOp .mul T x y yt, type := ty, pos, after, guard := gd } (.int k (c : Int)) := by
  subst hc
  have h := Val.mul (P := P) (W := W) (chg := chg) (news := news) (dst := dst) (ty := ty) (pos := pos) (after := after) (gd := gd) (T := T) (yt := yt) hx hy (by rw [← Int.natCast_mul]; exact hr)
  rw [← Int.natCast_mul] at h
  exact h
theorem Val.nilIface {x : Operand} {t : TypeId} {v : Value} (hx : rev r x = some (.iface t v)) : Val P r W chg news { dst, op := .nilCheck x, type := ty, pos, after, guard := gd } (.iface t v) :=
  ⟨fun a w ha _ => by simp [execOp, ha.eval hx]⟩
/-- An array of elements of more cells: of how many, and how large they are. -/
def arrNB (P : Program) (T : TypeId) : Option (Nat × Nat) :=
  match P.underlying T with
  | some (.array n e) => match P.underlying e with
    | some d => if isAggD d then (P.info? e).map fun j => (n, j.size) else none
    | none => none
  | _ => none
theorem Val.indexN {x y : Operand} {T : TypeId} {len sz : Nat} {cs vs : List Value} {k : IntKind} {i : Int} (hx : rev r x = some (.agg cs.toArray)) (hy : rev r y = some (.int k i)) (hT : arrNB P T = some (len, sz)) (h0 : 0 ≤ i) (h1 : i < len) (hv : (cs.drop (i.toNat * sz)).take sz = vs) :
    Val P r W chg news { dst, op := .index T x y, type := ty, pos, after, guard := gd } (.agg vs.toArray) :=
  ⟨fun a w ha _ => by
    unfold arrNB at hT
    split at hT
    · rename_i n e hu
      split at hT
      · rename_i d hd
        split at hT
        · rename_i hag
          cases hj : P.info? e with
          | none => simp [hj] at hT
          | some j =>
            simp [hj] at hT
            obtain ⟨rfl, rfl⟩ := hT
            have h2 : (isAgg e).run P w = .ok true w := by
              cases d <;> simp [isAggD] at hag <;> simp [isAgg, run_underlying hd]
            have hp : (part e cs.toArray (i.toNat * j.size)).run P w = .ok (.agg vs.toArray) w := by
              simp [part, h2, sizeOf, typeInfo, hj]
              exact hv
            simp [execOp, ha.eval hx, ha.eval hy, Instr.index, asIntOf, run_underlying hu, h0, h1, sizeOf, typeInfo, hj, hp]
        · cases hT
      · cases hT
    · cases hT⟩
theorem run_sliceBound {v : Value} {k : IntKind} {m : Nat} {y : Nat} {code : BoundsCode} {w : World} (hv : v = Value.int k (m : Int)) (h : m ≤ y) : (Instr.sliceBound v y code).run P w = .ok m w := by
  subst hv
  have h1 : (0 : Int) ≤ (m : Int) ∧ (m : Int) ≤ (y : Int) := ⟨by omega, by omega⟩
  simp [Instr.sliceBound, asIntOf, h1]
theorem Val.strSlice {x lo hi : Operand} {T : TypeId} {l : List UInt8} {k k' : IntKind} {a b : Nat} (hx : rev r x = some (.string (bs l))) (hlo : rev r lo = some (.int k a)) (hhi : rev r hi = some (.int k' b)) (hT : P.underlying T = some .string) (hab : a ≤ b) (hb : b ≤ l.length) :
    Val P r W chg news { dst, op := .slice T x (some lo) (some hi) none, type := ty, pos, after, guard := gd } (.string (bs ((l.drop a).take (b - a)))) :=
  ⟨fun ac w ha _ => by
    simp [execOp, ha.eval hx, ha.eval hlo, ha.eval hhi, Instr.sliceAt, Instr.slice, Instr.sliceBounds, run_underlying hT, run_sliceBound (P := P) (y := (bs l).size) (w := w) (v := Value.int k' (b : Int)) rfl (by rw [bs_size]; exact hb), run_sliceBound (P := P) (y := b) (w := w) (v := Value.int k (a : Int)) rfl hab, bs_extract]⟩
theorem Val.strTo {x hi : Operand} {T : TypeId} {l : List UInt8} {k' : IntKind} {b : Nat} (hx : rev r x = some (.string (bs l))) (hhi : rev r hi = some (.int k' b)) (hT : P.underlying T = some .string) (hb : b ≤ l.length) :
    Val P r W chg news { dst, op := .slice T x none (some hi) none, type := ty, pos, after, guard := gd } (.string (bs (l.take b))) :=
  ⟨fun ac w ha _ => by
    simp [execOp, ha.eval hx, ha.eval hhi, Instr.sliceAt, Instr.slice, Instr.sliceBounds, run_underlying hT, run_sliceBound (P := P) (y := (bs l).size) (w := w) (v := Value.int k' (b : Int)) rfl (by rw [bs_size]; exact hb), bs_extract]⟩
theorem Val.strFrom {x lo : Operand} {T : TypeId} {l : List UInt8} {k : IntKind} {a : Nat} (hx : rev r x = some (.string (bs l))) (hlo : rev r lo = some (.int k a)) (hT : P.underlying T = some .string) (ha' : a ≤ l.length) :
    Val P r W chg news { dst, op := .slice T x (some lo) none none, type := ty, pos, after, guard := gd } (.string (bs (l.drop a))) :=
  ⟨fun ac w ha _ => by
    have e : (l.drop a).take ((bs l).size - a) = l.drop a := by rw [bs_size]; exact List.take_of_length_le (by simp)
    simp [execOp, ha.eval hx, ha.eval hlo, Instr.sliceAt, Instr.slice, Instr.sliceBounds, run_underlying hT, run_sliceBound (P := P) (y := (bs l).size) (w := w) (v := Value.int k (a : Int)) rfl (by rw [bs_size]; exact ha'), bs_extract, e]⟩
theorem Val.strAdd {x y : Operand} {T yt : TypeId} {a b : List UInt8} (hx : rev r x = some (.string (bs a))) (hy : rev r y = some (.string (bs b))) (h : a.length + b.length ≤ 9223372036854775807) :
    Val P r W chg news { dst, op := .binOp .add T x y yt, type := ty, pos, after, guard := gd } (.string (bs (a ++ b))) :=
  ⟨fun ac w ha _ => by
    have h1 : ¬ (((bs a).size + (bs b).size : Nat) : Int) > IntKind.i64.max := by
      rw [bs_size, bs_size]
      have : IntKind.i64.max = 9223372036854775807 := by decide
      omega
    have h2 : (Op.stringOp .add (bs a) (bs b)).run P w = .ok (.string (bs (a ++ b))) w := by
      unfold Op.stringOp
      simp only [if_neg h1, Sem.run_pure, bs_append]
    simp [execOp, ha.eval hx, ha.eval hy, eqGuard, binOp_string_add, h2]⟩
theorem Val.eqlStr {x y : Operand} {T yt : TypeId} {a b : List UInt8} (hx : rev r x = some (.string (bs a))) (hy : rev r y = some (.string (bs b))) :
    Val P r W chg news { dst, op := .binOp .eql T x y yt, type := ty, pos, after, guard := gd } (.bool (decide (a = b))) :=
  ⟨fun ac w ha _ => by
    have e : (a == b) = decide (a = b) := by rw [Bool.eq_iff_iff]; simp
    simp [execOp, ha.eval hx, ha.eval hy, eqGuard, binOp_string_eql, bs_toList, e]⟩
theorem Val.neqStr {x y : Operand} {T yt : TypeId} {a b : List UInt8} (hx : rev r x = some (.string (bs a))) (hy : rev r y = some (.string (bs b))) :
    Val P r W chg news { dst, op := .binOp .neq T x y yt, type := ty, pos, after, guard := gd } (.bool (!decide (a = b))) :=
  ⟨fun ac w ha _ => by
    have e : (a == b) = decide (a = b) := by rw [Bool.eq_iff_iff]; simp
    simp [execOp, ha.eval hx, ha.eval hy, eqGuard, binOp_string_neq, bs_toList, e]⟩
end
/-! ### Maps whose keys are pairs of numbers -/
def pk (p : Nat × Nat) : Value := .agg #[.int .i64 (p.1 : Int), .int .u64 (p.2 : Int)]
def entsG : Nat → List ((Nat × Nat) × Value) → List MapEntry
  | _, [] => []
  | i, x :: l => { key := pk x.1, val := x.2, born := i } :: entsG (i + 1) l
def mapG (l : List ((Nat × Nat) × Value)) : Obj := .map (entsG 0 l).toArray l.length
def gIdx : List ((Nat × Nat) × Value) → Nat × Nat → Option (Nat × Value)
  | [], _ => none
  | x :: l, a => if x.1 = a then some (0, x.2) else (gIdx l a).map fun p => (p.1 + 1, p.2)
def gFind (l : List ((Nat × Nat) × Value)) (a : Nat × Nat) : Option Value := (gIdx l a).map (·.2)
theorem entsG_snoc : ∀ (l : List ((Nat × Nat) × Value)) (i : Nat) (x : (Nat × Nat) × Value), entsG i (l ++ [x]) = entsG i l ++ [{ key := pk x.1, val := x.2, born := i + l.length }]
  | [], i, x => by simp [entsG]
  | y :: l, i, x => by
    simp only [List.cons_append, entsG, entsG_snoc l (i + 1) x, List.length_cons]
    rw [show i + 1 + l.length = i + (l.length + 1) by omega]
theorem gFind_mem {l : List ((Nat × Nat) × Value)} {a : Nat × Nat} {v : Value} (h : gFind l a = some v) : (a, v) ∈ l := by
  induction l with
  | nil => cases h
  | cons x l ih =>
    unfold gFind gIdx at h
    split at h
    · rename_i hx
      simp at h
      subst hx h
      simp
    · rw [Option.map_map] at h
      have h2 : gFind l a = some v := by
        unfold gFind
        cases hg : gIdx l a with
        | none => rw [hg] at h; cases h
        | some p => rw [hg] at h; simpa using h
      exact List.mem_cons_of_mem _ (ih h2)
theorem gIdx_none {l : List ((Nat × Nat) × Value)} {a : Nat × Nat} (h : ∀ e ∈ l, e.1 ≠ a) : gIdx l a = none := by
  induction l with
  | nil => rfl
  | cons x l ih =>
    unfold gIdx
    rw [if_neg (h x (by simp)), ih (fun e he => h e (List.mem_cons_of_mem _ he))]
    rfl
theorem gIdx_absent {l : List ((Nat × Nat) × Value)} {a : Nat × Nat} (h : gFind l a = none) : ∀ e ∈ l, e.1 ≠ a := by
  induction l with
  | nil => intro e he; cases he
  | cons x l ih =>
    unfold gFind gIdx at h
    split at h
    · simp at h
    · rename_i hx
      intro e he
      rcases List.mem_cons.1 he with rfl | he
      · exact hx
      · refine ih ?_ e he
        unfold gFind
        cases hg : gIdx l a with
        | none => rfl
        | some p => rw [hg] at h; simp at h
def keyPairB (P : Program) (k : TypeId) : Bool := match P.underlying k with
  | some (.struct fs) => match fs.toList with
    | [f, g] => decide (f.name ≠ "_") && decide (g.name ≠ "_") && f.offset == 0 && g.offset == 1 && (P.underlying f.type).any isIntD && (P.underlying g.type).any isIntD
    | _ => false
  | _ => false
def mapKB (P : Program) (T : TypeId) : Option (TypeId × TypeId) := match P.underlying T with
  | some (.map k e) => some (k, e)
  | _ => none
structure Keyed (P : Program) (T k E : TypeId) : Prop where
  map : mapKB P T = some (k, E)
  fields : keyPairB P k = true
  agg : aggB P k = true
  eq : ∀ a b c d : Int, eqF P 8 k [.int .i64 a, .int .u64 b] [.int .i64 c, .int .u64 d] = some (decide (a = c) && (decide (b = d) && true))
section
variable {P : Program} {ops : Array Oper} {Q : Exit → Act → World → Prop} {n : Nat} {r : Regs} {ds : List Deferred} {W : World} {chg news : Blks} {rest : List Oper}
variable {d : Nat} {ty : TypeId} {pos : String} {after : Array Edge} {dst : Option Tmp} {gd : Option (Nat × Bool)}
theorem Keyed.und {T k E : TypeId} (h : Keyed P T k E) : P.underlying T = some (.map k E) := by
  have := h.map
  unfold mapKB at this
  split at this
  · rename_i hu; cases this; exact hu
  · cases this
theorem Keyed.str {T k E : TypeId} (h : Keyed P T k E) : ∃ f g q q', P.underlying k = some (.struct #[f, g]) ∧ f.name ≠ "_" ∧ g.name ≠ "_" ∧ f.offset = 0 ∧ g.offset = 1 ∧ P.underlying f.type = some (.int q) ∧ P.underlying g.type = some (.int q') := by
  have h1 := h.fields
  unfold keyPairB at h1
  split at h1
  · rename_i fs hu
    split at h1
    · rename_i f g hfs
      simp only [Bool.and_eq_true, decide_eq_true_eq, beq_iff_eq] at h1
      obtain ⟨⟨⟨⟨⟨a1, a2⟩, a3⟩, a4⟩, a5⟩, a6⟩ := h1
      obtain ⟨q, hq⟩ := any_int a5
      obtain ⟨q', hq'⟩ := any_int a6
      have e : fs = #[f, g] := by
        have := congrArg List.toArray hfs
        simpa using this
      exact ⟨f, g, q, q', by rw [hu, e], a1, a2, a3, a4, hq, hq'⟩
    · cases h1
  · cases h1
theorem Keyed.same {T k E : TypeId} (h : Keyed P T k E) (a b : Nat × Nat) (w : World) : (Op.equal k (pk a) (pk b)).run P w = .ok (decide (a = b)) w := by
  have h1 := run_eqF 9992 8 k _ _ _ w (h.eq (a.1 : Int) (a.2 : Int) (b.1 : Int) (b.2 : Int))
  rw [(aggB_spec h.agg _).2, (aggB_spec h.agg _).2] at h1
  have e : decide (a = b) = (decide ((a.1 : Int) = b.1) && (decide ((a.2 : Int) = b.2) && true)) := by
    rw [Bool.eq_iff_iff]
    simp only [Bool.and_eq_true, decide_eq_true_eq, and_true, Prod.ext_iff]
    omega
  rw [e]
  exact h1
theorem Keyed.check {T k E : TypeId} (h : Keyed P T k E) (e : Bool) (a : Nat × Nat) (w : World) : (Instr.checkKey e 10000 k (pk a)).run P w = .ok () w := by
  obtain ⟨f, g, q, q', hu, n1, n2, o1, o2, u1, u2⟩ := h.str
  have hi : ∀ (t : TypeId) (q : IntKind) (kk : IntKind) (v : Int), P.underlying t = some (.int q) → (Instr.checkKey e 9999 t (.int kk v)).run P w = .ok () w := fun t q kk v hq => by
    rw [show (9999 : Nat) = 9998 + 1 from rfl]
    unfold Instr.checkKey
    simp [run_underlying hq]
  have p1 : (part f.type #[.int .i64 (a.1 : Int), .int .u64 (a.2 : Int)] 0).run P w = .ok (.int .i64 (a.1 : Int)) w := run_part1 u1 rfl rfl
  have p2 : (part g.type #[.int .i64 (a.1 : Int), .int .u64 (a.2 : Int)] 1).run P w = .ok (.int .u64 (a.2 : Int)) w := run_part1 u2 rfl rfl
  rw [show (10000 : Nat) = 9999 + 1 from rfl]
  unfold Instr.checkKey pk
  simp [run_underlying hu, n1, n2, o1, o2, p1, p2, hi _ _ _ _ u1, hi _ _ _ _ u2]
theorem Keyed.asking {T k E : TypeId} (h : Keyed P T k E) (a : Nat × Nat) (w : World) : ∀ (l : List ((Nat × Nat) × Value)) (i j : Nat), (Instr.findAsking k (pk a) (entsG i l) j).run P w = .ok ((gIdx l a).map fun p => (j + p.1, p.2)) w
  | [], _, _ => rfl
  | x :: l, i, j => by
    unfold entsG Instr.findAsking gIdx
    have h1 := h.same a x.1 w
    by_cases hx : x.1 = a
    · subst hx
      simp at h1
      simp [h1]
    · have hx2 : ¬ a = x.1 := fun e => hx e.symm
      simp only [hx2, decide_false] at h1
      simp only [Sem.run_bind, h1, Result.andThen_ok, Bool.false_eq_true, if_false, if_neg hx, Keyed.asking h a w l (i + 1) (j + 1)]
      cases gIdx l a with
      | none => rfl
      | some p => simp; omega
theorem Keyed.find {T k E : TypeId} (h : Keyed P T k E) (a : Nat × Nat) (l : List ((Nat × Nat) × Value)) (w : World) : (Instr.findKey k (pk a) (entsG 0 l)).run P w = .ok (gIdx l a) w := by
  obtain ⟨f, g, q, q', hu, _⟩ := h.str
  have h2 := h.asking a w l 0 0
  have e : ((gIdx l a).map fun p => (0 + p.1, p.2)) = gIdx l a := by cases gIdx l a <;> simp
  rw [e] at h2
  cases l with
  | nil => simp [Instr.findKey, run_underlying hu, entsG, Instr.findNow, gIdx]
  | cons x l =>
    have h3 : Instr.findNow (.struct #[f, g]) (pk a) (entsG 0 (x :: l)) 0 = none := by
      unfold entsG Instr.findNow
      rfl
    simp [Instr.findKey, run_underlying hu, h3, h2]
theorem Val.lookupG {x i : Operand} {T k E : TypeId} {b : Nat} {l : List ((Nat × Nat) × Value)} {a : Nat × Nat} {z : Value} (hx : rev r x = some (.map (some b))) (hi : rev r i = some (pk a)) (hb : ∀ w, Mem W chg news w → w.heap[b]? = some (mapG l)) (hT : Keyed P T k E) (hz : zeroV P E = some z) :
    Val P r W chg news { dst, op := .lookup T x i true, type := ty, pos, after, guard := gd } (.tuple #[(gFind l a).getD z, .bool (gFind l a).isSome]) :=
  ⟨fun ac w ha hm => by
    have hbb : w.heap[b]? = some (.map (entsG 0 l).toArray l.length) := hb w hm
    have hzz : (zeroValue E).run P w = .ok z w := by
      unfold zeroV at hz
      cases hi : P.info? E with
      | none => simp [hi] at hz
      | some i =>
        simp [hi] at hz
        simp [zeroValue, typeInfo, hi, hz]
    unfold gFind
    simp only [execOp, ha.eval hx, ha.eval hi, Instr.lookup, Sem.run_bind, run_underlying hT.und, Result.andThen_ok, MapKept.run_getObj_map hbb, Sem.run_pure, hT.check, hT.find]
    cases h : gIdx l a with
    | none => simp [hzz]
    | some p => simp⟩
theorem run_mapUpdate_G {w : World} {T k E : TypeId} {b : Nat} {l : List ((Nat × Nat) × Value)} {a : Nat × Nat} {v : Value} (hb : w.heap[b]? = some (mapG l)) (hT : Keyed P T k E) (hk : gIdx l a = none) :
    (Instr.mapUpdate T (.map (some b)) (pk a) v).run P w = .ok () { w with heap := w.heap.setIfInBounds b (mapG (l ++ [(a, v)])) } := by
  have e1 : mapG (l ++ [(a, v)]) = .map ((entsG 0 l).toArray.push { key := pk a, val := v, born := l.length }) (l.length + 1) := by
    unfold mapG
    rw [entsG_snoc]
    simp
  unfold mapG at hb
  rw [e1]
  have hf := hT.find a l w
  rw [hk] at hf
  simp only [Instr.mapUpdate, Sem.run_bind, run_underlying hT.und, Result.andThen_ok, MapKept.run_getObj_map hb, hT.check, hf, MapKept.run_setObj_map _ hb]
theorem Sto.mapG_chg {x i y : Operand} {T k E : TypeId} {b : Nat} {l : List ((Nat × Nat) × Value)} {a : Nat × Nat} {v : Value} {chg' : Blks} (hx : rev r x = some (.map (some b))) (hi : rev r i = some (pk a)) (hy : rev r y = some v) (hu : Upd chg b (mapG l) (mapG (l ++ [(a, v)])) chg') (hT : Keyed P T k E) (hk : gIdx l a = none) :
    Sto P r W chg news { dst, op := .mapUpdate T x i y, type := ty, pos, after, guard := gd } chg' news :=
  ⟨fun ac w ha hm => by
    have hb := (hm.chgd _ _ hu.mem).2
    obtain ⟨s1, s2⟩ := heap_set_spec (o' := mapG (l ++ [(a, v)])) hb
    refine ⟨{ w with heap := w.heap.setIfInBounds b (mapG (l ++ [(a, v)])) }, by simp [execOp, ha.eval hx, ha.eval hi, ha.eval hy, run_mapUpdate_G hb hT hk], hm.upd_chg hu rfl rfl rfl (by simp) (fun k _ hk => s2 k hk) s1⟩⟩
theorem New.makeMapG {T : TypeId} : New P r W chg news { dst, op := .makeMap T none, type := ty, pos, after, guard := gd } (fun b => .map (some b)) (mapG []) :=
  ⟨fun a w _ _ => by simp [execOp, Instr.makeMap, newObj, Sem.run, mapG, entsG]⟩
end
end Go.Eng
/- The engine: calls that turn a block into one of some. No program is in sight. -/
namespace Go.Eng
open Go Go.RowKit
/-- It hands back one of some values; one block that lay there is what goes with it. -/
def TurnsZ {β : Type} (b : Nat) (ob : β → Obj) (v : β → Value) (I : β → Prop) (W : World) (e : Ending) (w : World) : Prop := ∃ x, I x ∧ e = .returned (v x) ∧ Mem W [(b, ob x)] [] w
section
variable {P : Program} {ops : Array Oper} {Q : Exit → Act → World → Prop} {n : Nat} {r : Regs} {ds : List Deferred} {W : World} {chg news : Blks} {rest : List Oper} {d : Nat}
theorem RunL.callZ {β : Type} {o : Oper} {f : FuncId} {args : Array Value} {v : β → Value} {I : β → Prop} {b : Nat} {o0 : Obj} {ob : β → Obj} {nf : β → Blks} (hi : IsCall P r o f args) (hg : guardB ops r o.guard = some true) (hd : o.dst = some d) (hn : Nat.ble (d + 1) n = true)
    (hu : ∀ x, Upd news b o0 (ob x) (nf x)) (hc : ∀ w, Mem W chg news w → Calls P f args w (TurnsZ b ob v I w)) (h : ∀ x, I x → RunL P ops Q n rest ((d, v x) :: r) ds W chg (nf x)) : RunL P ops Q n (o :: rest) r ds W chg news :=
  RunL.call hg hd (fun a w s => hi.runs a w s.agree) hc (fun a w e w' s hR => by
    obtain ⟨x, hx, rfl, hm⟩ := hR
    have s2 := s.put (Nat.le_of_ble_eq_true hn) (v x)
    exact h x hx _ _ ⟨s2.size, s2.agree, s2.defers, s.mem.turn_new (hu x) hm⟩)
theorem RunL.callZ_chg {β : Type} {o : Oper} {f : FuncId} {args : Array Value} {v : β → Value} {I : β → Prop} {b : Nat} {o0 : Obj} {ob : β → Obj} {cf : β → Blks} (hi : IsCall P r o f args) (hg : guardB ops r o.guard = some true) (hd : o.dst = some d) (hn : Nat.ble (d + 1) n = true)
    (hu : ∀ x, Upd chg b o0 (ob x) (cf x)) (hc : ∀ w, Mem W chg news w → Calls P f args w (TurnsZ b ob v I w)) (h : ∀ x, I x → RunL P ops Q n rest ((d, v x) :: r) ds W (cf x) news) : RunL P ops Q n (o :: rest) r ds W chg news :=
  RunL.call hg hd (fun a w s => hi.runs a w s.agree) hc (fun a w e w' s hR => by
    obtain ⟨x, hx, rfl, hm⟩ := hR
    have s2 := s.put (Nat.le_of_ble_eq_true hn) (v x)
    exact h x hx _ _ ⟨s2.size, s2.agree, s2.defers, s.mem.turn_chg (hu x) hm⟩)
variable {K : Act → World → Prop} {i : Nat}
theorem RunI.callZ {β : Type} {o : Oper} {f : FuncId} {args : Array Value} {v : β → Value} {I : β → Prop} {b : Nat} {o0 : Obj} {ob : β → Obj} {nf : β → Blks} (ho : ops[i]? = some o) (hi : IsCall P r o f args) (hg : guardB ops r o.guard = some true) (hd : o.dst = some d) (hn : Nat.ble (d + 1) n = true)
    (hu : ∀ x, Upd news b o0 (ob x) (nf x)) (hc : ∀ w, Mem W chg news w → Calls P f args w (TurnsZ b ob v I w)) (h : ∀ x, I x → RunK n K ((d, v x) :: r) ds W chg (nf x)) : RunI P ops Q n i K r ds W chg news :=
  RunI.call ho hi hg hc (fun a w e w' s hR => by
    obtain ⟨x, hx, rfl, hm⟩ := hR
    have s2 := s.put (Nat.le_of_ble_eq_true hn) (v x)
    simp only [hd]
    exact h x hx _ _ ⟨s2.size, s2.agree, s2.defers, s.mem.turn_new (hu x) hm⟩)
theorem RunI.callZ_chg {β : Type} {o : Oper} {f : FuncId} {args : Array Value} {v : β → Value} {I : β → Prop} {b : Nat} {o0 : Obj} {ob : β → Obj} {cf : β → Blks} (ho : ops[i]? = some o) (hi : IsCall P r o f args) (hg : guardB ops r o.guard = some true) (hd : o.dst = some d) (hn : Nat.ble (d + 1) n = true)
    (hu : ∀ x, Upd chg b o0 (ob x) (cf x)) (hc : ∀ w, Mem W chg news w → Calls P f args w (TurnsZ b ob v I w)) (h : ∀ x, I x → RunK n K ((d, v x) :: r) ds W (cf x) news) : RunI P ops Q n i K r ds W chg news :=
  RunI.call ho hi hg hc (fun a w e w' s hR => by
    obtain ⟨x, hx, rfl, hm⟩ := hR
    have s2 := s.put (Nat.le_of_ble_eq_true hn) (v x)
    simp only [hd]
    exact h x hx _ _ ⟨s2.size, s2.agree, s2.defers, s.mem.turn_chg (hu x) hm⟩)
theorem RunE.retZ {β : Type} {fn : Func} {b : Nat} {ob : β → Obj} {o : Obj} {v : β → Value} {I : β → Prop} (x : β) (hx : I x) {u : Value} (ho : o = ob x) (hv : ResVs P r ([(b, o)] ++ news) fn u) (he : u = v x) : RunE (bodyPost P fn (TurnsZ b ob v I W)) n .ret r [] W [(b, o)] news :=
  RunE.ret (chg := [(b, o)]) hv (fun _ hm => ⟨x, hx, by rw [he], by rw [← ho]; exact hm.drop⟩)
theorem run_equal_slice_nil {w : World} {T e : TypeId} {b : Addr} {k c : Nat} (hT : P.underlying T = some (.slice e)) : (Op.equal T (.slice (some b) k c) (.slice none 0 0)).run P w = .ok false w := by
  have h : ∀ d, (Op.equalIn (d + 1) T (.slice (some b) k c) (.slice none 0 0)).run P w = .ok false w := fun d => by simp [Op.equalIn, run_underlying hT]
  exact h 9999
variable {ty : TypeId} {pos : String} {after : Array Edge} {dst : Option Tmp} {gd : Option (Nat × Bool)}
theorem Val.eqlSlNil {x : Operand} {T yt e : TypeId} {b : Addr} {k c : Nat} (hx : rev r x = some (.slice (some b) k c)) (hT : P.underlying T = some (.slice e)) :
    Val P r W chg news { dst, op := .binOp .eql T x (.const (.slice none 0 0)) yt, type := ty, pos, after, guard := gd } (.bool false) :=
  ⟨fun a w ha _ => by
    have h := run_equal_slice_nil (P := P) (w := w) (b := b) (k := k) (c := c) hT
    simp [execOp, ha.eval hx, BigFrame.eval_const, eqGuard, binOp, h]⟩
theorem Take.app {x : Nat × Obj} {l l' : Blks} (h : Take x l l') : ∀ a : Blks, Take x (a ++ l) (a ++ l')
  | [] => h
  | _ :: a => .there (Take.app h a)
theorem Pick.appR {r l : Blks} (a : Blks) (h : Pick r l) : Pick r (a ++ l) := by
  induction h with
  | nil => exact .nil
  | cons h he _ ih => exact .cons (h.app a) he ih
theorem Pick.app {r l : Blks} (h : Pick r l) : ∀ a : Blks, Pick (a ++ r) (a ++ l)
  | [] => h
  | (_, _) :: a => .cons .here rfl (Pick.app h a)
end
end Go.Eng
/- The engine: strings of runes and of bytes. No program is in sight. -/
namespace Go.Eng
open Go Go.RowKit
theorem i32_in {p : Int} (h0 : 0 ≤ p) (h1 : p < 2147483648) : IntKind.i32.wrap p = p := by
  have := IntWalk.i32_in p ⟨by omega, by omega⟩
  exact this
theorem enc_ascii {c : Nat} (h : c < 128) : Utf8.encode (c : Int) = bs [UInt8.ofNat c] := by
  have h1 : Utf8.valid (c : Int) = true := by
    unfold Utf8.valid
    simp only [Bool.or_eq_true, Bool.and_eq_true, decide_eq_true_eq]
    left
    omega
  unfold Utf8.encode
  rw [if_pos h1]
  have h2 : (c : Int).toNat = c := by omega
  rw [h2]
  simp only [h, if_true, bs]
theorem bytes_fold : ∀ (l : List UInt8) (s : ByteArray), (l.map fun c => (c.toNat : Int)).foldl (fun r n => r.push (UInt8.ofNat n.toNat)) s = ⟨s.data ++ l.toArray⟩
  | [], s => by simp
  | c :: l, s => by
    rw [List.map_cons, List.foldl_cons, bytes_fold l]
    have h1 : UInt8.ofNat (c.toNat : Int).toNat = c := by simp
    rw [h1]
    simp [ByteArray.push]
section
variable {P : Program} {r : Regs} {W : World} {chg news : Blks} {dst : Option Tmp} {gd : Option (Nat × Bool)} {ty : TypeId} {pos : String} {after : Array Edge}
theorem Val.runeStr {x : Operand} {S T : TypeId} {ks k : IntKind} {c : Nat} (hx : rev r x = some (.int ks (c : Int))) (hS : P.underlying S = some (.int k)) (hT : P.underlying T = some .string) (hc : c < 128) :
    Val P r W chg news { dst, op := .convert S T x, type := ty, pos, after, guard := gd } (.string (bs [UInt8.ofNat c])) :=
  ⟨fun a w ha hm0 => by simp [execOp, ha.eval hx, convert, run_underlying hS, run_underlying hT, Conv.intToString, enc_ascii hc]⟩
theorem bytes_flat : ∀ l : List UInt8, (l.map fun c => [byteV c]).flatten = l.map byteV
  | [] => rfl
  | c :: l => by rw [List.map_cons, List.flatten_cons, bytes_flat l]; rfl
theorem run_bytesStr {S T e : TypeId} {w : World} {p : Option Addr} {b o cap : Nat} {l : List UInt8} (hS : P.underlying S = some (.slice e)) (he : P.underlying e = some (.int .u8)) (hT : P.underlying T = some .string)
    (h : Sl w p b o 1 (l.map fun c => [byteV c])) : (convert S T (.slice p l.length cap)).run P w = .ok (.string (bs l)) w := by
  rw [run_convert_bytes_string w S T e p l.length cap hS he hT]
  have hfl := bytes_flat l
  match p, h with
  | none, h =>
    have : l = [] := by
      cases l with
      | nil => rfl
      | cons c l => have := h.at' (by simp); cases this
    subst this
    rfl
  | some ad, h =>
    have h1 := run_loadCells_list (P := P) w ad (l.map byteV) (fun j v hj => by
      obtain ⟨ad', e1, e2⟩ := h.flat (by decide) j v (by rw [hfl]; exact hj)
      cases e1
      exact e2)
    have h2 := run_bytesToString (P := P) w ad l.length cap (l.map fun c => (c.toNat : Int)) (by
      have e1 : l.map byteV = (l.map fun c => (c.toNat : Int)).map (Value.int .u8) := by rw [List.map_map]; rfl
      rw [List.length_map] at h1
      rw [h1, e1])
    rw [h2, bytes_fold]
    simp [bs, ByteArray.empty, ByteArray.emptyWithCapacity]
    rfl
theorem Val.bytesStr {x : Operand} {S T e : TypeId} {p : Option Addr} {b o cap : Nat} {l : List UInt8} (hx : rev r x = some (.slice p l.length cap)) (hS : P.underlying S = some (.slice e)) (he : P.underlying e = some (.int .u8)) (hT : P.underlying T = some .string)
    (h : ∀ w, Mem W chg news w → Sl w p b o 1 (l.map fun c => [byteV c])) : Val P r W chg news { dst, op := .convert S T x, type := ty, pos, after, guard := gd } (.string (bs l)) :=
  ⟨fun a w ha hm0 => by
    have h1 := run_bytesStr (P := P) (S := S) (T := T) (cap := cap) hS he hT (h w hm0)
    simp [execOp, ha.eval hx, h1]⟩
theorem Val.len_own {x : Operand} {T e : TypeId} {sz s2 n : Nat} {z : Own} {xs : List Value} (hx : rev r x = some (ownV z n)) (hT : slB P T = some (e, sz)) (h : OwnOk s2 z n xs) :
    Val P r W chg news { dst, op := .call { callee := .builtin .len, args := #[x], argTypes := #[T] }, type := ty, pos, after, guard := gd } (.int .i64 (n : Int)) := by
  rw [ownV_slice h] at hx
  exact Val.len_sl hx hT
theorem RunL.callNA {ops : Array Oper} {Q : Exit → Act → World → Prop} {n : Nat} {ds : List Deferred} {rest : List Oper} {d : Nat} {β : Type} {o : Oper} {f : FuncId} {args : Array Value} {v : β → Value} {U : β → Blks} (A T : Blks) (hne : news = A ++ T) (hi : IsCall P r o f args) (hg : guardB ops r o.guard = some true) (hd : o.dst = some d) (hn : Nat.ble (d + 1) n = true)
    (hc : ∀ w, Mem W chg news w → Calls P f args w (News v (fun b => U b ++ []) w)) (h : ∀ b, RunL P ops Q n rest ((d, v b) :: r) ds W chg (A ++ (U b ++ T))) : RunL P ops Q n (o :: rest) r ds W chg news :=
  RunL.call hg hd (fun a w s => hi.runs a w s.agree) hc (fun a w e w' s hR => by
    obtain ⟨b, rfl, hm⟩ := hR
    have s2 := s.put (Nat.le_of_ble_eq_true hn) (v b)
    have h1 : Mem W chg ((U b ++ []) ++ news) w' := s.mem.trans hm
    rw [List.append_nil, hne] at h1
    exact h b _ _ ⟨s2.size, s2.agree, s2.defers, h1.perm (List.perm_append_comm_assoc _ _ _)⟩)
theorem made_one (z : Value) (n : Nat) : madeCells #[z] (n * 1) = (List.replicate n z).toArray := by
  unfold madeCells
  refine Array.ext (by simp) fun i h1 h2 => ?_
  simp [Nat.mod_one]
theorem New.makeSlice {x y : Operand} {T e : TypeId} {n by_ : Nat} {z : Value} {kx ky : IntKind} (hx : rev r x = some (.int kx (n : Int))) (hy : rev r y = some (.int ky (n : Int))) (hT : apB P T = some (e, 1, by_)) (hz : zeroB P e = some [z]) (hn : n ≤ 1000000) (hb : by_ ≤ 1000) :
    New P r W chg news { dst, op := .makeSlice T x y, type := ty, pos, after, guard := gd } (fun b => .slice (some ⟨b, 0, none⟩) n n) (.cells (List.replicate n z).toArray e (0, 0)) :=
  ⟨fun a w ha _ => by
    obtain ⟨hu, i, zz, hi, hzi, h2, h3, _, _⟩ := apB_spec hT
    unfold zeroB at hz
    simp only [hi, hzi, Option.bind_some, Option.map_some, Option.some.injEq] at hz
    have hz2 : zz.cells = #[z] := by
      apply Array.toList_inj.1
      rw [hz]
    have hb2 : (i.bytes : Int) * (n : Int) ≤ 281474976710656 := by
      have h4 : i.bytes * n ≤ 1000 * 1000000 := Nat.mul_le_mul (by omega) hn
      have h5 : ((i.bytes * n : Nat) : Int) ≤ 281474976710656 := by omega
      rwa [Int.natCast_mul] at h5
    have hr := run_makeSlice (P := P) w T e i zz hu hi hzi kx ky n n (by omega) (Int.le_refl _) (by rw [h2]; omega) hb2 (by omega)
    rw [h2, hz2, Int.toNat_natCast, made_one] at hr
    simp [execOp, ha.eval hx, ha.eval hy, hr]⟩
end
end Go.Eng
