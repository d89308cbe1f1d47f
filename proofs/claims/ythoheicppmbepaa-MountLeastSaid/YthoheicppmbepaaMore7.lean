/- The engine inside a round of a range over a function: all of its judgements there; ranges whose variables are laid in blocks, ranges in rounds, rounds that break off or return; functions that hold several. No program is in sight. -/
import Derived.RangeFuncNested
import Derived.OrdersIn
import Derived.Test.YthoheicppmbepaaMore6
namespace Go.Eng
open Go Go.RowKit

theorem wpIn_scope_straight {F : Fence} {n : Nat} {P : Program} {Q : Exit → Act → World → Prop} {a : Act} {w : World} {c : Code} (h : c.wpIn F n P (Exit.noGoto Q) a w) : (Code.scope c).wpIn F n P Q a w := by
  intro b k cs hro hb hr
  have st1 : ∀ a w k, step P (lone (b.atR a (.code (.scope c) :: k)) cs w) = .next (lone (b.atR a (.code c :: .inScope c :: k)) cs w) := fun a w k => step_lone_go (by simp [stepG, stepG.exec, Frame.atR])
  have st2 : ∀ a w k, step P (lone (b.atR a (.inScope c :: k)) cs w) = .next (lone (b.atR a k) cs w) := fun a w k => step_lone_go (by simp [stepG, stepG.exec, Frame.atR])
  have h0 : (lone (b.atR a (.code (.scope c) :: k)) cs w).fenced P F := fenced_calm hb hr rfl
  obtain ⟨e, a₁, w₁, hq, harr⟩ := h b (.inScope c :: k) cs hro hb hr
  cases e with
  | normal => exact ⟨.normal, a₁, w₁, hq, .head h0 (st1 _ _ _) (StepsIn.trans harr (.one (fenced_calm hb hr rfl) (st2 _ _ _)))⟩
  | exit id =>
    have hx : exitTo id (.inScope c :: k) = exitTo id k := by simp [exitTo]
    exact ⟨.exit id, a₁, w₁, hq, fun k' hk => .head h0 (st1 _ _ _) (harr.1 k' (by rw [hx]; exact hk)), fun hr' hk => let ⟨k₁, h1, h2⟩ := harr.2 hr' (by rw [hx]; exact hk); ⟨k₁, h1, .head h0 (st1 _ _ _) h2⟩⟩
  | goto l => exact hq.elim
  | ret => exact ⟨_, a₁, w₁, hq, .of_steps (.one h0 (st1 _ _ _)) harr⟩
  | panic ch => exact ⟨_, a₁, w₁, hq, .of_steps (.one h0 (st1 _ _ _)) harr⟩
  | outgrown => exact ⟨_, a₁, w₁, hq, .of_steps (.one h0 (st1 _ _ _)) harr⟩

section
variable {ro : Option Nat} {P : Program} {ops : Array Oper} {Q : Exit → Act → World → Prop} {n : Nat} {r : Regs} {ds : List Deferred} {W : World} {chg news : Blks} {rest : List Oper}

/-! ### What holds of a region outside of rounds holds inside -/
def noDefers (ops : Array Oper) : Bool := ops.toList.all notDefer
theorem rows_in {row : String} {args : Array Value} {w : World} {R : Value → World → Prop} {m : Nat} (h : Rows P row args w R) : RowsIn (Fr ro) m P row args w R := fun c cs _ =>
  let ⟨v, w', hR, s⟩ := h c cs
  ⟨v, w', hR, by
    have e : Machine.fenced P (Fr ro) = Machine.fenced P Fence.wide := by cases ro <;> rfl
    rw [e]; exact stepsIn_wide.2 s⟩
theorem calls_in {f : FuncId} {args : Array Value} {w : World} {R : Ending → World → Prop} {m : Nat} (h : Calls P f args w R) : CallsIn (Fr ro) m P f args w R := by
  have h2 : CallsIn Fence.wide m P f args w R := callsIn_wide.2 h
  cases ro with
  | none => exact h2
  | some l => exact CallsIn.inRound l h2
theorem upon_in {o : Oper} {a : Act} {K : Act → World → Prop} {x : Result Next} (h : o.upon P a K Q x) : o.uponIn (Fr ro) 9 P a K Q x := by
  cases x with
  | ok nx w' =>
    cases nx <;> simp only [Oper.upon, Oper.uponIn] at h ⊢ <;>
      first
        | exact h
        | exact ⟨fun h => (by cases h), (calls_in h).mono (fun e w'' he => by cases e <;> exact he)⟩
        | exact ⟨fun h => (by cases h), rows_in h⟩
  | halt x w' => cases x <;> simp only [Oper.upon, Oper.uponIn] at h ⊢ <;> exact h
theorem oper_in {o : Oper} {a : Act} {w : World} {K : Act → World → Prop} (hnd : notDefer o = true) (hlo : LetsOut Q → False) (h : o.wp P a w K Q ∨ (o.asks P a w ∧ LetsOut Q)) : o.wpIn (Fr ro) 9 P a w K Q := by
  rcases h with h | h
  · refine ⟨fun _ _ => trivial, ?_⟩
    rw [Oper.semAt_eq _ _ _ (notDefer_spec hnd)]
    exact upon_in h
  · exact (hlo h.2).elim
theorem list_in (hlo : LetsOut Q → False) : ∀ (l : List Oper) (a : Act) (w : World), l.all notDefer = true → wpList P ops Q l a w → wpListIn (Fr ro) 9 P ops Q l a w
  | [], _, _, _, h => h
  | o :: l, a, w, hn, h => by
    simp only [List.all_cons, Bool.and_eq_true] at hn
    simp only [wpList, wpListIn] at h ⊢
    split
    · rename_i hw
      rw [if_pos hw] at h
      exact oper_in hn.1 hlo (h.imp (Oper.wp_mono (fun a w h => list_in hlo l a w hn.2 h)) id)
    · rename_i hw
      rw [if_neg hw] at h
      exact ⟨fun _ _ => trivial, list_in hlo l _ _ hn.2 h⟩
theorem op_in {i : Nat} {K K' : Act → World → Prop} {a : Act} {w : World} (hn : noDefers ops = true) (hlo : LetsOut Q → False) (hK : ∀ a w, K a w → K' a w) (h : wpOp P ops Q i K a w) : wpOpIn (Fr ro) 9 P ops Q i K' a w := by
  unfold wpOp at h
  unfold wpOpIn
  cases ho : ops[i]? with
  | none => simp only [ho] at h ⊢; exact hK _ _ h
  | some o =>
    simp only [ho] at h ⊢
    have hnd : notDefer o = true := List.all_eq_true.1 hn o (by
      obtain ⟨h1, h2⟩ := Array.getElem?_eq_some_iff.1 ho
      rw [← h2]; exact Array.mem_toList_iff.2 (Array.getElem_mem h1))
    split
    · rename_i hw
      rw [if_pos hw] at h
      exact oper_in hnd hlo (h.imp (Oper.wp_mono hK) id)
    · rename_i hw
      rw [if_neg hw] at h
      exact ⟨fun _ _ => trivial, hK _ _ h⟩
theorem any_in (hn : noDefers ops = true) (hlo : LetsOut Q → False) : ∀ (fuel : Nat) (listed : Array Bool) (a : Act) (w : World), wpAny P .any ops Q fuel listed a w → wpAnyIn (Fr ro) 9 P .any ops Q fuel listed a w
  | 0, _, _, _, h => h
  | fuel + 1, _, _, _, h => ⟨h.1, fun i hi => op_in hn hlo (fun a' w' h' => any_in hn hlo fuel _ a' w' h') (h.2 i hi)⟩
theorem lets_no {Q : Exit → Act → World → Prop} (h : ∀ a w, Q .outgrown a w → False) : LetsOut Q → False := fun ⟨a, w, hq⟩ => h a w hq

theorem RunCR.regionP {id : Nat} {l : List Oper} (h : RunL P l.toArray Q n l r ds W chg news) (hnd : l.all notDefer = true := by rfl) (hlo : ∀ a w, Q .outgrown a w → False := by exact fun _ _ h => h) : RunCR ro P Q n (.region id l.toArray false) r ds W chg news := fun a w s =>
  wpIn_region_lit (list_in (lets_no hlo) l a w hnd (h a w s))
theorem RunCR.draw {id : Nat} {l : List Oper} {news0 : Blks} (k : Nat) (hm : P.follows .mixedOrders = true) (_hp : Pick news0 news) (h : RunA P l.toArray Q k (fun c => c = chg) news0 n l.toArray.size (Array.replicate l.toArray.size false) r ds W chg news) (hnd : noDefers l.toArray = true := by rfl) (hlo : ∀ a w, Q .outgrown a w → False := by exact fun _ _ h => h) : RunCR ro P Q n (.region id l.toArray true) r ds W chg news := fun a _ s =>
  wpIn_region_any hm (any_in hnd (lets_no hlo) _ _ _ _ (wpAny_of_T _ _ _ _ (h a _ s.drew Closed.start)))
theorem RunCR.drawK {id : Nat} {l : List Oper} {news0 : Blks} (k : Nat) (hm : P.follows .mixedOrders = true) (_hp : Pick news0 news) (h : RunA P l.toArray Q k (fun c => c.map (·.1) = chg.map (·.1)) news0 n l.toArray.size (Array.replicate l.toArray.size false) r ds W chg news) (hnd : noDefers l.toArray = true := by rfl) (hlo : ∀ a w, Q .outgrown a w → False := by exact fun _ _ h => h) : RunCR ro P Q n (.region id l.toArray true) r ds W chg news := fun a _ s =>
  wpIn_region_any hm (any_in hnd (lets_no hlo) _ _ _ _ (wpAny_of_T _ _ _ _ (h a _ s.drew Closed.start)))
theorem RunCR.drawJ {id : Nat} {l : List Oper} {news0 : Blks} {J : Act → World → Prop} (k : Nat) (hm : P.follows .mixedOrders = true) (_hp : Pick news0 news) (h : RunA P l.toArray (SegQ Q J) k (fun c => c = chg) news0 n l.toArray.size (Array.replicate l.toArray.size false) r ds W chg news) (h2 : ∀ a w, J a w → Q .normal a w) (hnd : noDefers l.toArray = true := by rfl) (hlo : ∀ a w, Q .outgrown a w → False := by exact fun _ _ h => h) :
    RunCR ro P Q n (.region id l.toArray true) r ds W chg news := fun a _ s =>
  Go.wpIn_mono (wpIn_region_any hm (any_in (Q := SegQ Q J) hnd (lets_no (Q := SegQ Q J) (fun a w hq => hlo a w hq)) _ _ _ _ (wpAny_of_T _ _ _ _ (h a _ s.drew Closed.start)))) (fun e a w hq => by cases e <;> first | exact h2 a w hq | exact hq)
theorem RunCR.drawX {X : Type} {id : Nat} {l : List Oper} {news0 : Blks} {q : Regs} (k : Nat) (n0 : Blks) (R : X → Regs → Regs) (C V T : X → Blks) (Inv : X → Prop) (hm : P.follows .mixedOrders = true) (hp : Pick news0 news) (_hs : Sub q r) (_hn : Pick n0 news)
    (h : RunA P l.toArray (SegQ Q (MeetP n ds W (fun x => R x q) C (fun x => V x ++ (n0 ++ T x)) Inv)) k (fun c => c = chg) news0 n l.toArray.size (Array.replicate l.toArray.size false) r ds W chg news)
    (h2 : ∀ x, Inv x → RunE Q n .normal (R x q) ds W (C x) (V x ++ (n0 ++ T x))) (hnd : noDefers l.toArray = true := by rfl) (hlo : ∀ a w, Q .outgrown a w → False := by exact fun _ _ h => h) : RunCR ro P Q n (.region id l.toArray true) r ds W chg news :=
  RunCR.drawJ k hm hp h (fun a w hj => by
    obtain ⟨x, hi, sx⟩ := hj
    exact h2 x hi a w sx) hnd hlo
theorem RunCR.scope {c : Code} (h : RunCR ro P (Exit.noGoto Q) n c r ds W chg news) : RunCR ro P Q n (.scope c) r ds W chg news := fun a w s => wpIn_scope_straight (h a w s)
theorem RunCR.label {l : Nat} (h : RunE Q n .normal r ds W chg news) : RunCR ro P Q n (.label l) r ds W chg news := fun a w s => wpIn_label (h a w s)
theorem RunCR.cond_true {c : Operand} {x y : Code} (hc : rev r c = some (.bool true)) (ht : RunCR ro P Q n x r ds W chg news) : RunCR ro P Q n (.cond c x y) r ds W chg news :=
  RunCR.cond hc (fun _ => ht) (fun h => by cases h)
theorem RunCR.cond_false {c : Operand} {x y : Code} (hc : rev r c = some (.bool false)) (hf : RunCR ro P Q n y r ds W chg news) : RunCR ro P Q n (.cond c x y) r ds W chg news :=
  RunCR.cond hc (fun h => by cases h) (fun _ => hf)
theorem RunCR.keep {c : Code} {q : Regs} {news' : Blks} (hs : Sub q r) (hn : Pick news' news) (h : RunCR ro P Q n c q ds W chg news') : RunCR ro P Q n c r ds W chg news := fun a w s => h a w (s.pick hs hn)
theorem RunCR.unroll {body : Code} (k : Nat) (h : RunCR ro P (Exit.then (Code.roundsIn (Fr ro) 9 P body Q k) Q) n body r ds W chg news) : RunCR ro P Q n (.loop body) r ds W chg news := fun a w s => wpIn_loop_rounds (k + 1) (h a w s)
theorem RunER.rounds {body : Code} {k : Nat} (h : RunCR ro P (Exit.then (Code.roundsIn (Fr ro) 9 P body Q k) Q) n body r ds W chg news) : RunE (Exit.then (Code.roundsIn (Fr ro) 9 P body Q (k + 1)) Q) n .normal r ds W chg news := fun a w s => h a w s
theorem RunCR.loopK {body : Code} {q : Regs} {n0 : Blks} (N : Nat) (R : Nat → Regs → Regs) (C V : Nat → Blks) (Inv : Nat → Prop) (h0 : Inv 0) (hc : chg = C 0) (hs : Sub (R 0 q) r) (hn : Pick (V 0 ++ n0) news)
    (hb : ∀ k, k ≤ N → Inv k → RunCR ro P (Exit.then (Round n ds W C N Inv (fun k => R k q) (fun k => V k ++ n0) k) Q) n body (R k q) ds W (C k) (V k ++ n0)) : RunCR ro P Q n (.loop body) r ds W chg news := by
  have key : ∀ (m k : Nat), N - k < m → k ≤ N → Inv k → ∀ a w, St n (R k q) ds W (C k) (V k ++ n0) a w → Code.roundsIn (Fr ro) 9 P body Q m a w := by
    intro m
    induction m with
    | zero => intro k h; omega
    | succ m ih =>
      intro k hk hN hi a w s
      rw [roundsIn_succ]
      refine Go.wpIn_mono (hb k hN hi a w s) ?_
      rintro e a2 w2 hq
      cases e with
      | normal =>
        obtain ⟨k', h1, h2, h3, s2⟩ := hq
        exact ih k' (by omega) h2 h3 a2 w2 s2
      | exit id => exact hq
      | goto l => exact hq
      | ret => exact hq
      | panic c => exact hq
      | outgrown => exact hq
  intro a w s
  subst hc
  exact wpIn_loop_rounds _ (key _ 0 (Nat.lt_succ_self _) (Nat.zero_le _) h0 a w (s.pick hs hn))
theorem RunCR.loopX {X : Type} {body : Code} {q : Regs} (n0 : Blks) (N : Nat) (R : Nat → X → Regs → Regs) (C V T : Nat → X → Blks) (Inv : Nat → X → Prop) (x0 : X) (h0 : Inv 0 x0) (hc : chg = C 0 x0) (hs : Sub (R 0 x0 q) r) (hn : Pick (V 0 x0 ++ (n0 ++ T 0 x0)) news)
    (hb : ∀ k x, k ≤ N → Inv k x → RunCR ro P (Exit.then (RoundX n ds W C N Inv (fun k x => R k x q) (fun k x => V k x ++ (n0 ++ T k x)) k) Q) n body (R k x q) ds W (C k x) (V k x ++ (n0 ++ T k x))) : RunCR ro P Q n (.loop body) r ds W chg news := by
  have key : ∀ (m k : Nat) (x : X), N - k < m → k ≤ N → Inv k x → ∀ a w, St n (R k x q) ds W (C k x) (V k x ++ (n0 ++ T k x)) a w → Code.roundsIn (Fr ro) 9 P body Q m a w := by
    intro m
    induction m with
    | zero => intro k x h; omega
    | succ m ih =>
      intro k x hk hN hi a w s
      rw [roundsIn_succ]
      refine Go.wpIn_mono (hb k x hN hi a w s) ?_
      rintro e a2 w2 hq
      cases e with
      | normal =>
        obtain ⟨k', x', h1, h2, h3, s2⟩ := hq
        exact ih k' x' (by omega) h2 h3 a2 w2 s2
      | exit id => exact hq
      | goto l => exact hq
      | ret => exact hq
      | panic c => exact hq
      | outgrown => exact hq
  intro a w s
  subst hc
  exact wpIn_loop_rounds _ (key _ 0 x0 (Nat.lt_succ_self _) (Nat.zero_le _) h0 a w (s.pick hs hn))
theorem RunCR.seqJ {X : Type} {c1 c2 : Code} {q : Regs} (n0 : Blks) (R : X → Regs → Regs) (C V T : X → Blks) (Inv : X → Prop) (_hs : Sub q r) (_hn : Pick n0 news)
    (h : RunCR ro P (Exit.then (MeetP n ds W (fun x => R x q) C (fun x => V x ++ (n0 ++ T x)) Inv) Q) n c1 r ds W chg news)
    (h2 : ∀ x, Inv x → RunCR ro P Q n c2 (R x q) ds W (C x) (V x ++ (n0 ++ T x))) : RunCR ro P Q n (.seq c1 c2) r ds W chg news := fun a w s =>
  wpIn_seq (Go.wpIn_mono (h a w s) (fun e a' w' he => by
    cases e with
    | normal => obtain ⟨x, hi, sx⟩ := he; exact h2 x hi a' w' sx
    | exit id => exact he
    | goto l => exact he
    | ret => exact he
    | panic c => exact he
    | outgrown => exact he))
end

/-! ### Ranges -/
section
variable {ro : Option Nat} {P : Program} {ops : Array Oper} {Q : Exit → Act → World → Prop} {n : Nat} {r : Regs} {ds : List Deferred} {W : World} {chg news : Blks} {rest : List Oper}

/-- The registers behind the parameters of a round. -/
def putsR : List Nat → List Value → Regs → Regs
  | p :: ps, v :: vs, r => putsR ps vs ((p, v) :: r)
  | _, _, r => r
theorem putsR_agree : ∀ (ps : List Nat) (vs : List Value) (t : Array Value) (r : Regs), (∀ p ∈ ps, p < t.size) → (∀ u v, rget r u = some v → t[u]? = some v) →
    (∀ u v, rget (putsR ps vs r) u = some v → ((ps.zip vs).foldl (fun t (pv : Nat × Value) => t.setIfInBounds pv.1 pv.2) t)[u]? = some v) ∧ ((ps.zip vs).foldl (fun t (pv : Nat × Value) => t.setIfInBounds pv.1 pv.2) t).size = t.size
  | [], vs, t, r, _, h => by simpa [putsR] using h
  | p :: ps, [], t, r, _, h => by simpa [putsR] using h
  | p :: ps, v :: vs, t, r, hp, h => by
    have h1 := putsR_agree ps vs (t.setIfInBounds p v) ((p, v) :: r) (fun q hq => by rw [Array.size_setIfInBounds]; exact hp q (by simp [hq])) (fun u x hu => by
      have ha : Agree { tmps := t, defers := [] } r := h
      have := ha.put (d := p) (v := v) (hp p (by simp)) u x hu
      simpa [Act.put] using this)
    simpa [putsR] using h1
/-- Where the record of a round's loop lies, and that it is none of the blocks that turn. -/
structure InR (l : Nat) (W : World) (nm : List Nat) : Prop where
  rec' : ∃ x, W.heap[l]? = some (.loop x)
  notin : l ∉ nm
/-- The variables of a round are there. -/
def AsgQ {Y : Type} (n : Nat) (W : World) (V : Blks) (R : Y → Regs) (NB : Y → Blks) : Exit → Act → World → Prop
  | .normal, a, w => ∃ y, St n (R y) [] W V (NB y) a w
  | _, _, _ => False
theorem RunE.asg {Y : Type} {R : Y → Regs} {NB : Y → Blks} {V : Blks} (y : Y) (hc : chg = V) (hs : Sub (R y) r) (hn : Pick (NB y) news) : RunE (AsgQ n W V R NB) n .normal r [] W chg news := fun _ _ s => ⟨y, by subst hc; exact s.pick hs hn⟩
/-- How a round may be left: on to the next one, with the blocks V; or out of the loop. -/
def BodyX (W : World) (nv nb : List Nat) (V : Blks) (Stp : Code → Blks → Prop) : Exit → Act → World → Prop
  | .normal, _, w => ∃ B, B.map (·.1) = nb ∧ Mem W (V ++ B) [] w
  | .ret, _, w => ∃ V' B, V'.map (·.1) = nv ∧ B.map (·.1) = nb ∧ Stp .ret V' ∧ Mem W (V' ++ B) [] w
  | .exit id, _, w => ∃ V' B, V'.map (·.1) = nv ∧ B.map (·.1) = nb ∧ Stp (.exit id) V' ∧ Mem W (V' ++ B) [] w
  | _, _, _ => False
theorem RunE.bodyX {nv nb : List Nat} {V : Blks} {Stp : Code → Blks → Prop} (B : Blks) (hc : chg = V ++ B) (hb : B.map (·.1) = nb := by rfl) : RunE (BodyX W nv nb V Stp) n .normal r ds W chg news := fun _ _ s => ⟨B, hb, hc ▸ s.mem.drop⟩
theorem RunE.bodyX_ret {nv nb : List Nat} {V : Blks} {Stp : Code → Blks → Prop} (V' B : Blks) (hs : Stp .ret V') (hc : chg = V' ++ B) (hv : V'.map (·.1) = nv := by rfl) (hb : B.map (·.1) = nb := by rfl) : RunE (BodyX W nv nb V Stp) n .ret r ds W chg news := fun _ _ s => ⟨V', B, hv, hb, hs, hc ▸ s.mem.drop⟩
theorem RunE.bodyX_exit {id : Nat} {nv nb : List Nat} {V : Blks} {Stp : Code → Blks → Prop} (V' B : Blks) (hs : Stp (.exit id) V') (hc : chg = V' ++ B) (hv : V'.map (·.1) = nv := by rfl) (hb : B.map (·.1) = nb := by rfl) : RunE (BodyX W nv nb V Stp) n (.exit id) r ds W chg news := fun _ _ s => ⟨V', B, hv, hb, hs, hc ▸ s.mem.drop⟩

theorem Mem.roundN {w w' : World} {V V' n0 B : Blks} (h : Mem W chg (V ++ n0) w) (h' : Mem w (V' ++ B) [] w') (hm : V'.map (·.1) = V.map (·.1)) (hB : ∀ b ∈ B.map (·.1), W.heap.size ≤ b ∧ ∀ o, (b, o) ∉ chg ++ (V ++ n0)) : Mem W chg (V' ++ n0) w' := by
  have hV : ∀ b, (∃ o, (b, o) ∈ V') ↔ ∃ o, (b, o) ∈ V := fun b => by rw [← mem_names, ← mem_names, hm]
  have hge : ∀ b o, (b, o) ∈ V' → W.heap.size ≤ b := fun b o hb => by
    obtain ⟨o2, h2⟩ := (hV b).1 ⟨o, hb⟩
    exact (h.newd b o2 (List.mem_append.2 (.inl h2))).1
  have hnd := h.once
  have hout : ∀ b o, (b, o) ∈ B → W.heap.size ≤ b ∧ ∀ o, (b, o) ∉ chg ++ (V ++ n0) := fun b o hb => hB b (mem_names.2 ⟨o, hb⟩)
  refine ⟨h'.os.trans h.os, h'.tape.trans h.tape, h'.output.trans h.output, Nat.le_trans h.size h'.size, fun k hk hc => ?_, fun b o hb => ?_, fun b o hb => ?_, ?_⟩
  · rw [h'.old k (Nat.lt_of_lt_of_le hk h.size) (fun o ho => by
      rcases List.mem_append.1 ho with ho | ho
      · have := hge k o ho; omega
      · have := (hout k o ho).1; omega)]
    exact h.old k hk hc
  · have h1 := h.chgd b o hb
    refine ⟨h1.1, ?_⟩
    rw [h'.old b (h.lt_new (List.mem_append.2 (.inl hb))) (fun o2 ho => ?_)]
    · exact h1.2
    · rcases List.mem_append.1 ho with ho | ho
      · have := hge b o2 ho; omega
      · exact (hout b o2 ho).2 o (List.mem_append.2 (.inl hb))
  · rcases List.mem_append.1 hb with hb | hb
    · exact ⟨hge b o hb, h'.at (by simp [hb])⟩
    · have h1 := h.newd b o (List.mem_append.2 (.inr hb))
      refine ⟨h1.1, ?_⟩
      rw [h'.old b (h.lt_new (List.mem_append.2 (.inr (List.mem_append.2 (.inr hb))))) (fun o2 ho => ?_)]
      · exact h1.2
      · rcases List.mem_append.1 ho with ho | ho
        · obtain ⟨o3, h3⟩ := (hV b).1 ⟨o2, ho⟩
          rw [List.map_append, List.map_append, List.nodup_append] at hnd
          have h4 := (List.nodup_append.1 hnd.2.1).2.2 b (mem_names.2 ⟨o3, h3⟩) b (mem_names.2 ⟨o, hb⟩)
          exact h4 rfl
        · exact (hout b o2 ho).2 o (List.mem_append.2 (.inr (List.mem_append.2 (.inr hb))))
  · have e : (chg ++ (V' ++ n0)).map (·.1) = (chg ++ (V ++ n0)).map (·.1) := by simp [List.map_append, hm]
    rw [e]; exact hnd
/-- The variables of a round, held. -/
structure Held (n B : Nat) (r : Regs) (NB : Blks) (a : Act) (w : World) : Prop where
  size : a.tmps.size = n
  agree : Agree a r
  defers : a.defers = []
  held : ∀ b o, (b, o) ∈ NB → B ≤ b ∧ w.heap[b]? = some o
  once : (NB.map (·.1)).Nodup

/-- What a range and its rounds must be, wherever the loop stands. -/
structure RangeOk {α Y : Type} (P : Program) (n N : Nat) (r : Regs) (W : World) (chg n0 : Blks) (ps : List Nat) (assign body : Code) (enc : α → List Value) (V : List α → Blks) (RY : α → Y → Regs) (NB : α → Y → Blks) (Stp : Code → List α → Blks → Prop) : Prop where
  names : ∀ pre, (V pre).map (·.1) = (V []).map (·.1)
  cells : ∀ pre b o, (b, o) ∈ V pre → o.isCells = true
  cellsN : ∀ x y b o, (b, o) ∈ NB x y → o.isCells = true
  lens : ∀ x, (enc x).length = ps.length
  inps : ∀ p ∈ ps, p < n
  asg : ∀ l pre x W1, Mem W chg (V pre ++ n0) W1 → RunCR (some l) P (AsgQ n W1 (V pre) (RY x) (NB x)) n assign (putsR ps (enc x) r) [] W1 (V pre) []
  body : ∀ l pre x y W1, pre.length < N → Mem W chg (V pre ++ n0) W1 → InR l W1 ((V pre ++ NB x y).map (·.1)) → (∀ b, (∃ o, (b, o) ∈ chg ++ n0) ∨ b < W.heap.size → b ∉ (V pre ++ NB x y).map (·.1)) → RunCR (some l) P (BodyX W1 ((V []).map (·.1)) ((NB x y).map (·.1)) (V (pre ++ [x])) (fun c V' => Stp c (pre ++ [x]) V')) n body (RY x y) [] W1 (V pre ++ NB x y) []

variable {α Y : Type} {N : Nat} {n0 : Blks} {ps : List Nat} {assign body : Code} {enc : α → List Value} {V : List α → Blks} {RY : α → Y → Regs} {NB : α → Y → Blks} {Stp : Code → List α → Blks → Prop}

theorem RangeOk.lt (H : RangeOk P n N r W chg n0 ps assign body enc V RY NB Stp) {w : World} (s0 : Mem W chg (V [] ++ n0) w) : ∀ pre b o, (b, o) ∈ chg ++ (V pre ++ n0) → b < w.heap.size := fun pre b o hb => by
  rcases List.mem_append.1 hb with hb | hb
  · exact s0.lt_new (List.mem_append.2 (.inl hb))
  · rcases List.mem_append.1 hb with hb | hb
    · have : b ∈ (V pre).map (·.1) := mem_names.2 ⟨o, hb⟩
      rw [H.names pre] at this
      obtain ⟨o2, h2⟩ := mem_names.1 this
      exact s0.lt_new (List.mem_append.2 (.inr (List.mem_append.2 (.inl h2))))
    · exact s0.lt_new (List.mem_append.2 (.inr (List.mem_append.2 (.inr hb))))
/-- What is known of the memory from round to round. -/
def RI (W : World) (chg n0 : Blks) (V : List α → Blks) (B : Nat) (pre : List α) (W' : World) : Prop := Mem W chg (V pre ++ n0) W' ∧ B ≤ W'.heap.size
/-- What is known behind a round that leaves the loop. -/
def RIx (W : World) (chg n0 : Blks) (nv : List Nat) (Stp : Code → List α → Blks → Prop) (B : Nat) (c : Code) (pre : List α) (W' : World) : Prop := ∃ V', V'.map (·.1) = nv ∧ Stp c pre V' ∧ Mem W chg (V' ++ n0) W' ∧ B ≤ W'.heap.size
theorem RangeOk.own (H : RangeOk P n N r W chg n0 ps assign body enc V RY NB Stp) {w : World} (s0 : Mem W chg (V [] ++ n0) w) : OwnFrom w.heap.size (RI W chg n0 V w.heap.size) := fun pre _ _ _ hI hgr hr =>
  ⟨hI.1.turned hgr (fun k e => (hr k e).1) (H.lt s0 pre) s0.size, Nat.le_trans hI.2 hgr.size⟩
theorem RangeOk.ownX (H : RangeOk P n N r W chg n0 ps assign body enc V RY NB Stp) {w : World} (s0 : Mem W chg (V [] ++ n0) w) (c : Code) : OwnFrom w.heap.size (RIx W chg n0 ((V []).map (·.1)) Stp w.heap.size c) := fun pre _ _ _ hI hgr hr => by
  obtain ⟨V', h1, h2, h3, h4⟩ := hI
  refine ⟨V', h1, h2, h3.turned hgr (fun k e => (hr k e).1) (fun b o hb => ?_) s0.size, Nat.le_trans h4 hgr.size⟩
  rcases List.mem_append.1 hb with hb | hb
  · exact H.lt s0 [] b o (List.mem_append.2 (.inl hb))
  · rcases List.mem_append.1 hb with hb | hb
    · have : b ∈ V'.map (·.1) := mem_names.2 ⟨o, hb⟩
      rw [h1] at this
      obtain ⟨o2, h2⟩ := mem_names.1 this
      exact H.lt s0 [] b o2 (List.mem_append.2 (.inr (List.mem_append.2 (.inl h2))))
    · exact H.lt s0 [] b o (List.mem_append.2 (.inr (List.mem_append.2 (.inr hb))))
theorem RangeOk.ownA (H : RangeOk P n N r W chg n0 ps assign body enc V RY NB Stp) {B : Nat} (x : α) (a' : Act) : OwnFrom B (fun (_ : Unit) W' => ∃ y, Held n B (RY x y) (NB x y) a' W') := fun _ A C row hI hgr hr => by
  obtain ⟨y, h⟩ := hI
  refine ⟨y, h.size, h.agree, h.defers, fun b o hb => ?_, h.once⟩
  obtain ⟨h1, h2⟩ := h.held b o hb
  refine ⟨h1, ?_⟩
  rw [hgr.block b (Array.getElem?_eq_some_iff.1 h2).1 (fun e => ?_)]
  · exact h2
  · obtain ⟨_, o2, h3, h4⟩ := hr b e.symm
    rw [h2] at h3
    cases h3
    rw [H.cellsN x y b o hb] at h4
    cases h4
theorem keepsFrom_mem {w w' : World} {B : Nat} {V : Blks} (h : Mem w V [] w') (hv : ∀ b o, (b, o) ∈ V → b < B ∨ ∃ o', w.heap[b]? = some o' ∧ o'.isCells = true) : KeepsFrom B w w' :=
  ⟨h.size, fun k o hB hk ho => by
    rw [h.old k (Array.getElem?_eq_some_iff.1 hk).1 (fun o2 ho2 => ?_)]
    · exact hk
    · rcases hv k o2 ho2 with h1 | ⟨o3, h3, h4⟩
      · omega
      · rw [hk] at h3; cases h3; rw [ho] at h4; cases h4⟩
theorem RangeOk.asgW (H : RangeOk P n N r W chg n0 ps assign body enc V RY NB Stp) {a : Act} {w : World} (s : St n r ds W chg (V [] ++ n0) a w) (l : Nat) (pre : List α) (x : α) (W1 : World) (K : Act → World → Prop) (hI : RI W chg n0 V w.heap.size pre W1)
    (hK : ∀ a' W', KeepsFrom w.heap.size W1 W' → KpX w.heap.size ((V []).map (·.1)) W1 W' → RI W chg n0 V w.heap.size pre W' → (∃ y, Held n w.heap.size (RY x y) (NB x y) a' W') → K a' W') :
    assign.wpIn ((Fr none).inRound l) 7 P (Exit.then K (fun _ _ _ => False)) { tmps := (ps.toArray.zip (enc x).toArray).foldl (fun t (p, v) => t.setIfInBounds p v) a.tmps, defers := [] } W1 := by
  have hp := putsR_agree ps (enc x) a.tmps r (fun p hp => by rw [s.size]; exact H.inps p hp) (fun u v hu => s.agree u v hu)
  have e : (ps.toArray.zip (enc x).toArray).foldl (fun t (pv : Nat × Value) => t.setIfInBounds pv.1 pv.2) a.tmps = (ps.zip (enc x)).foldl (fun t (pv : Nat × Value) => t.setIfInBounds pv.1 pv.2) a.tmps := by
    rw [← Array.foldl_toList, Array.toList_zip]
  have hst : Mem W1 (V pre) [] W1 := ⟨rfl, rfl, rfl, Nat.le_refl _, fun _ _ _ => rfl, fun b o hb => ⟨hI.1.lt_new (List.mem_append.2 (.inr (List.mem_append.2 (.inl hb)))), (hI.1.newd b o (List.mem_append.2 (.inl hb))).2⟩, fun _ _ hb => (by cases hb), by
    have := hI.1.once
    rw [List.map_append, List.map_append, List.nodup_append] at this
    simpa using (List.nodup_append.1 this.2.1).1⟩
  have hr := H.asg l pre x W1 hI.1 { tmps := (ps.zip (enc x)).foldl (fun t (pv : Nat × Value) => t.setIfInBounds pv.1 pv.2) a.tmps, defers := [] } W1 ⟨by rw [hp.2]; exact s.size, fun u v hu => hp.1 u v hu, rfl, hst⟩
  show assign.wpIn (Fr (some l)) 7 P _ { tmps := (ps.toArray.zip (enc x).toArray).foldl (fun t (pv : Nat × Value) => t.setIfInBounds pv.1 pv.2) a.tmps, defers := [] } W1
  rw [e]
  refine Go.wpIn_mono (wpIn_any hr) ?_
  intro e a2 w2 hq
  cases e with
  | normal =>
    obtain ⟨y, s2⟩ := hq
    have hlt : ∀ b o, (b, o) ∈ V pre → b < w.heap.size := fun b o hb => H.lt s.mem pre b o (List.mem_append.2 (.inr (List.mem_append.2 (.inl hb))))
    refine hK a2 w2 (keepsFrom_mem s2.mem.drop (fun b o hb => .inl (hlt b o hb))) (fun k hk hne => s2.mem.old k (Nat.lt_of_lt_of_le hk hI.2) (fun o ho => hne (by rw [← H.names pre]; exact mem_names.2 ⟨o, ho⟩))) ⟨?_, Nat.le_trans hI.2 s2.mem.size⟩ ⟨y, s2.size, s2.agree, s2.defers, fun b o hb => ?_, ?_⟩
    · have h2 := Mem.round hI.1 s2.mem.drop rfl
      exact h2
    · have := s2.mem.newd b o hb
      exact ⟨Nat.le_trans hI.2 this.1, this.2⟩
    · have := s2.mem.once
      rw [List.map_append, List.nodup_append] at this
      exact this.2.1
  | exit id => exact hq.elim
  | goto l => exact hq.elim
  | ret => exact hq.elim
  | panic c => exact hq.elim
  | outgrown => exact hq.elim
theorem RangeOk.round (H : RangeOk P n N r W chg n0 ps assign body enc V RY NB Stp) {a : Act} {w : World} (s : St n r ds W chg (V [] ++ n0) a w) (l : Nat) (pre : List α) (x : α) (a' : Act) (W1 : World) (hl : w.heap.size ≤ l) (hrec : ∃ x, W1.heap[l]? = some (.loop x))
    (hI : RI W chg n0 V w.heap.size pre W1) (hA : ∃ y, Held n w.heap.size (RY x y) (NB x y) a' W1) (hlen : pre.length < N) :
    body.wpIn ((Fr none).inRound l) 7 P (ownPostG w.heap.size (KpX w.heap.size ((V []).map (·.1))) (RI W chg n0 V w.heap.size) (RIx W chg n0 ((V []).map (·.1)) Stp w.heap.size) (pre ++ [x]) W1) a' W1 := by
  obtain ⟨y, hh⟩ := hA
  have hlt : ∀ b o, (b, o) ∈ chg ++ (V pre ++ n0) → b < w.heap.size := H.lt s.mem pre
  have hVlt : ∀ b o, (b, o) ∈ V pre → b < w.heap.size := fun b o hb => hlt b o (List.mem_append.2 (.inr (List.mem_append.2 (.inl hb))))
  have hV' : ∀ (V' : Blks), V'.map (·.1) = (V []).map (·.1) → ∀ b o, (b, o) ∈ V' → b < w.heap.size := fun V' hv b o hb => by
    have : b ∈ V'.map (·.1) := mem_names.2 ⟨o, hb⟩
    rw [hv, ← H.names pre] at this
    obtain ⟨o2, h2⟩ := mem_names.1 this
    exact hVlt b o2 h2
  have hB' : ∀ (B : Blks), B.map (·.1) = (NB x y).map (·.1) → ∀ b o, (b, o) ∈ B → w.heap.size ≤ b ∧ ∃ o', W1.heap[b]? = some o' ∧ o'.isCells = true := fun B hb b o h => by
    have : b ∈ B.map (·.1) := mem_names.2 ⟨o, h⟩
    rw [hb] at this
    obtain ⟨o2, h2⟩ := mem_names.1 this
    obtain ⟨h3, h4⟩ := hh.held b o2 h2
    exact ⟨h3, o2, h4, H.cellsN x y b o2 h2⟩
  have hst : Mem W1 (V pre ++ NB x y) [] W1 := ⟨rfl, rfl, rfl, Nat.le_refl _, fun _ _ _ => rfl, fun b o hb => by
      rcases List.mem_append.1 hb with hb | hb
      · exact ⟨hI.1.lt_new (List.mem_append.2 (.inr (List.mem_append.2 (.inl hb)))), (hI.1.newd b o (List.mem_append.2 (.inl hb))).2⟩
      · have h1 := (hh.held b o hb).2
        exact ⟨(Array.getElem?_eq_some_iff.1 h1).1, h1⟩, fun _ _ hb => (by cases hb), by
      have h1 := hI.1.once
      rw [List.map_append, List.map_append, List.nodup_append] at h1
      rw [List.append_nil, List.map_append, List.nodup_append]
      refine ⟨(List.nodup_append.1 h1.2.1).1, hh.once, fun b hb c hc e => ?_⟩
      subst e
      obtain ⟨o, ho⟩ := mem_names.1 hb
      obtain ⟨o2, ho2⟩ := mem_names.1 hc
      have := hVlt b o ho
      have := (hh.held b o2 ho2).1
      omega⟩
  have hInR : InR l W1 ((V pre ++ NB x y).map (·.1)) := ⟨hrec, fun hc => by
    obtain ⟨o, ho⟩ := mem_names.1 hc
    rcases List.mem_append.1 ho with ho | ho
    · have := hVlt l o ho; omega
    · obtain ⟨q, hq⟩ := hrec
      have h1 := (hh.held l o ho).2
      rw [hq] at h1
      cases h1
      have := H.cellsN x y l _ ho
      cases this⟩
  have hAp : ∀ b, (∃ o, (b, o) ∈ chg ++ n0) ∨ b < W.heap.size → b ∉ (V pre ++ NB x y).map (·.1) := fun b hb hc => by
    obtain ⟨o, ho⟩ := mem_names.1 hc
    have hnd := hI.1.once
    rcases List.mem_append.1 ho with ho | ho
    · rcases hb with ⟨o2, hb⟩ | hb
      · rw [List.map_append, List.map_append, List.nodup_append] at hnd
        rcases List.mem_append.1 hb with hb | hb
        · exact hnd.2.2 b (mem_names.2 ⟨o2, hb⟩) b (List.mem_append.2 (.inl (mem_names.2 ⟨o, ho⟩))) rfl
        · exact (List.nodup_append.1 hnd.2.1).2.2 b (mem_names.2 ⟨o, ho⟩) b (mem_names.2 ⟨o2, hb⟩) rfl
      · have := (hI.1.newd b o (List.mem_append.2 (.inl ho))).1
        omega
    · have h1 := (hh.held b o ho).1
      rcases hb with ⟨o2, hb⟩ | hb
      · have : b < w.heap.size := by
          rcases List.mem_append.1 hb with hb | hb
          · exact hlt b o2 (List.mem_append.2 (.inl hb))
          · exact hlt b o2 (List.mem_append.2 (.inr (List.mem_append.2 (.inr hb))))
        omega
      · have := s.mem.size
        omega
  have hr := H.body l pre x y W1 hlen hI.1 hInR hAp a' W1 ⟨hh.size, hh.agree, hh.defers, hst⟩
  show body.wpIn (Fr (some l)) 7 P _ a' W1
  have hBout : ∀ (B : Blks), B.map (·.1) = (NB x y).map (·.1) → ∀ b ∈ B.map (·.1), W.heap.size ≤ b ∧ ∀ o, (b, o) ∉ chg ++ (V pre ++ n0) := fun B hb b hbm => by
    obtain ⟨o, ho⟩ := mem_names.1 hbm
    have h1 := (hB' B hb b o ho).1
    exact ⟨Nat.le_trans s.mem.size h1, fun o2 h2 => by have := hlt b o2 h2; omega⟩
  have hkf : ∀ (V' B : Blks) (w2 : World), V'.map (·.1) = (V []).map (·.1) → B.map (·.1) = (NB x y).map (·.1) → Mem W1 (V' ++ B) [] w2 → KeepsFrom w.heap.size W1 w2 := fun V' B w2 hv hb hm =>
    keepsFrom_mem hm (fun b o ho => by
      rcases List.mem_append.1 ho with ho | ho
      · exact .inl (hV' V' hv b o ho)
      · exact .inr (hB' B hb b o ho).2)
  refine Go.wpIn_mono (wpIn_any hr) ?_
  intro e a2 w2 hq
  cases e with
  | normal =>
    obtain ⟨B, hb, hm⟩ := hq
    refine ⟨hkf _ B w2 (H.names _) hb hm, fun k hk hne => hm.old k (Nat.lt_of_lt_of_le hk hI.2) (fun o ho => ?_), hI.1.roundN hm (by rw [H.names, H.names pre]) (hBout B hb), Nat.le_trans hI.2 hm.size⟩
    rcases List.mem_append.1 ho with ho | ho
    · exact hne (by rw [← H.names (pre ++ [x])]; exact mem_names.2 ⟨o, ho⟩)
    · have := (hB' B hb k o ho).1; omega
  | exit id =>
    obtain ⟨V', B, hv, hb, hst2, hm⟩ := hq
    exact ⟨hkf V' B w2 hv hb hm, V', hv, hst2, hI.1.roundN hm (by rw [hv, H.names pre]) (hBout B hb), Nat.le_trans hI.2 hm.size⟩
  | ret =>
    obtain ⟨V', B, hv, hb, hst2, hm⟩ := hq
    exact ⟨hkf V' B w2 hv hb hm, V', hv, hst2, hI.1.roundN hm (by rw [hv, H.names pre]) (hBout B hb), Nat.le_trans hI.2 hm.size⟩
  | goto l => exact hq.elim
  | panic c => exact hq.elim
  | outgrown => exact hq.elim
theorem kpX_trans {B : Nat} {nm : List Nat} {A C D : World} (h1 : KpX B nm A C) (h2 : KpX B nm C D) : KpX B nm A D := fun k hk hne => (h2 k hk hne).trans (h1 k hk hne)
theorem kpX_put {B : Nat} {nm : List Nat} (A : World) (l : Nat) (o' : Obj) (h : B ≤ l) : KpX B nm A (A.putObj l o') := fun k hk _ => World.putObj_heap_other (by omega)
/-- 'for x := range seq', of a function's own code. -/
theorem RunC.rangeH' {g : Operand} {gf : Nat} {lb : Array Value} {S Sp : List α → Prop} (H : RangeOk P n N r W chg n0 ps assign body enc V RY NB Stp)
    (hg : rev r g = some (.func (.func gf) #[] lb)) (he : Enters P gf) (hn : Pick (V [] ++ n0) news)
    (hseq : ∀ w, Mem W chg (V [] ++ n0) w → SeqStopsK (Fr none) 8 P gf lb (fun x => (enc x).toArray) (KpX w.heap.size ((V []).map (·.1))) S Sp N w)
    (h : ∀ xs D, S xs → RunE Q n .normal r ({ target := .collected D, args := #[] } :: ds) W chg ((D, .deferred (some [])) :: (V xs ++ n0)))
    (h2 : ∀ c pre V' D, Sp pre → V'.map (·.1) = (V []).map (·.1) → Stp c pre V' → RunC P Q n c r ({ target := .collected D, args := #[] } :: ds) W chg ((D, .deferred (some [])) :: (V' ++ n0))) :
    RunC P Q n (.rangeFunc g ps.toArray assign body) r ds W chg news := fun a w s => by
  have s' : St n r ds W chg (V [] ++ n0) a w := ⟨s.size, s.agree, s.defers, s.mem.pick hn⟩
  have mark : ∀ (V' : Blks) (D : Nat) (W' : World), V'.map (·.1) = (V []).map (·.1) → w.heap.size ≤ D → Mem W chg (V' ++ n0) W' → W'.heap[D]? = some (.deferred (some [])) → Mem W chg ((D, .deferred (some [])) :: (V' ++ n0)) W' := fun V' D W' hv hD hI hK => by
    have hlt : ∀ b o, (b, o) ∈ chg ++ (V' ++ n0) → b < w.heap.size := fun b o hb => by
      rcases List.mem_append.1 hb with hb | hb
      · exact H.lt s'.mem [] b o (List.mem_append.2 (.inl hb))
      · rcases List.mem_append.1 hb with hb | hb
        · have : b ∈ V'.map (·.1) := mem_names.2 ⟨o, hb⟩
          rw [hv] at this
          obtain ⟨o2, h2⟩ := mem_names.1 this
          exact H.lt s'.mem [] b o2 (List.mem_append.2 (.inr (List.mem_append.2 (.inl h2))))
        · exact H.lt s'.mem [] b o (List.mem_append.2 (.inr (List.mem_append.2 (.inr hb))))
    refine { hI with newd := fun b o hb => ?_, once := ?_ }
    · rcases List.mem_cons.1 hb with hb | hb
      · cases hb; exact ⟨Nat.le_trans s'.mem.size hD, hK⟩
      · exact hI.newd b o hb
    · have hnd := hI.once
      rw [List.map_append, List.nodup_append] at hnd ⊢
      refine ⟨hnd.1, ?_, ?_⟩
      · rw [List.map_cons, List.nodup_cons]
        refine ⟨fun hm => ?_, hnd.2.1⟩
        obtain ⟨o, ho⟩ := mem_names.1 hm
        have := hlt D o (List.mem_append.2 (.inr ho))
        omega
      · intro b hb c hc
        rw [List.map_cons, List.mem_cons] at hc
        rcases hc with rfl | hc
        · obtain ⟨o, ho⟩ := mem_names.1 hb
          have := hlt b o (List.mem_append.2 (.inl ho))
          intro e; subst e; omega
        · exact hnd.2.2 b hb c hc
  refine (wpIn_wide (n := 9)).1 ?_
  show Code.wpIn (Fr none) 9 P _ Q a w
  exact wpIn_rangeFunc_ownH (F := Fr none) (n := 9) rfl (by decide) (s.agree.eval hg) trivial he (hseq w s'.mem) kpX_trans (fun A l o o' hl _ _ _ => kpX_put A l o' hl) (Below.refl _ w) (fun x => by simp [H.lens x])
    (RI W chg n0 V w.heap.size) (RIx W chg n0 ((V []).map (fun x : Nat × Obj => x.1)) Stp w.heap.size) (H.own s'.mem) (H.ownX s'.mem) ⟨s'.mem, Nat.le_refl _⟩ (fun x a' W' => ∃ y, Held n w.heap.size (RY x y) (NB x y) a' W') (fun x a' => H.ownA x a')
    (fun l pre x W1 K hI hK => H.asgW s' l pre x W1 K hI hK) (fun l pre x a' W1 hl hrec hI hA hlen => H.round s' l pre x a' W1 hl hrec hI hA hlen)
    (fun D xs W' hD hS hI hK => h xs D hS _ W' ⟨s.size, s.agree, by rw [← s.defers], mark _ D W' (H.names xs) hD hI.1 hK⟩)
    (fun D c pre W' hD hSp hI hK => by
      obtain ⟨V', hv, hst, hm, _⟩ := hI
      exact (wpIn_wide (n := 9)).2 (h2 c pre V' D hSp hv hst _ W' ⟨s.size, s.agree, by rw [← s.defers], mark V' D W' hv hD hm hK⟩))
/-- In a round of another one. -/
theorem RunCR.rangeN' {l : Nat} {g : Operand} {gf : Nat} {lb : Array Value} {S Sp : List α → Prop} (H : RangeOk P n N r W chg n0 ps assign body enc V RY NB Stp) {nm : List Nat} (hL : InR l W nm) (hnm : chg.map (·.1) = nm)
    (hg : rev r g = some (.func (.func gf) #[] lb)) (he : Enters P gf) (hn : Pick (V [] ++ n0) news)
    (hseq : ∀ w, Mem W chg (V [] ++ n0) w → SeqStopsK (Fr none) 8 P gf lb (fun x => (enc x).toArray) (KpX w.heap.size ((V []).map (·.1))) S Sp N w)
    (h : ∀ xs, S xs → RunE Q n .normal r ds W chg (V xs ++ n0))
    (h2 : ∀ c pre V', Sp pre → V'.map (·.1) = (V []).map (·.1) → Stp c pre V' → RunCR (some l) P Q n c r ds W chg (V' ++ n0)) :
    RunCR (some l) P Q n (.rangeFunc g ps.toArray assign body) r ds W chg news := fun a w s => by
  have s' : St n r ds W chg (V [] ++ n0) a w := ⟨s.size, s.agree, s.defers, s.mem.pick hn⟩
  obtain ⟨q, hq⟩ := hL.rec'
  exact wpIn_rangeFunc_ownN (F := Fr (some l)) (n := 9) (l₀ := l) (r₀ := q) rfl (s.mem.old_at hq (fun o ho => hL.notin (by rw [← hnm]; exact mem_names.2 ⟨o, ho⟩))) (by decide) (s.agree.eval hg) trivial he (SeqStopsK.inRound l (hseq w s'.mem)) kpX_trans (fun A l o o' hl _ _ _ => kpX_put A l o' hl) (Below.refl _ w) (fun x => by simp [H.lens x])
    (RI W chg n0 V w.heap.size) (RIx W chg n0 ((V []).map (fun x : Nat × Obj => x.1)) Stp w.heap.size) (H.own s'.mem) (H.ownX s'.mem) ⟨s'.mem, Nat.le_refl _⟩ (fun x a' W' => ∃ y, Held n w.heap.size (RY x y) (NB x y) a' W') (fun x a' => H.ownA x a')
    (fun l pre x W1 K hI hK => H.asgW s' l pre x W1 K hI hK) (fun l pre x a' W1 hl hrec hI hA hlen => H.round s' l pre x a' W1 hl hrec hI hA hlen)
    (fun xs W' hS hI => h xs hS _ W' ⟨s.size, s.agree, s.defers, hI.1⟩)
    (fun c pre W' hSp hI => by
      obtain ⟨V', hv, hst, hm, _⟩ := hI
      exact h2 c pre V' hSp hv hst _ W' ⟨s.size, s.agree, s.defers, hm⟩)
/-- A range over a function, of a function's own code: the blocks V turn from round to round; the variables of a round are registers, or lie in blocks NB. -/
theorem RunC.rangeH {α Y : Type} {g : Operand} {gf : Nat} {lb : Array Value} {S Sp : List α → Prop} {ps : List Nat} {assign body : Code} {q : Regs} {N : Nat} (n0 : Blks) (enc : α → List Value) (V : List α → Blks) (RY : α → Y → Regs → Regs) (NB : α → Y → Blks) (Stp : Code → List α → Blks → Prop)
    (_hs : Sub q r) (hn : Pick (V [] ++ n0) news) (hnm : ∀ pre, (V pre).map (·.1) = (V []).map (·.1)) (hcl : ∀ pre b o, (b, o) ∈ V pre → o.isCells = true) (hcn : ∀ x y b o, (b, o) ∈ NB x y → o.isCells = true)
    (hlen : ∀ x, (enc x).length = ps.length) (hin : (ps.all fun p => Nat.ble (p + 1) n) = true) (hg : rev r g = some (.func (.func gf) #[] lb)) (he : Enters P gf)
    (hseq : ∀ w, Mem W chg (V [] ++ n0) w → SeqStopsK (Fr none) 8 P gf lb (fun x => (enc x).toArray) (KpX w.heap.size ((V []).map (·.1))) S Sp N w)
    (hasg : ∀ l pre x W1, Mem W chg (V pre ++ n0) W1 → RunCR (some l) P (AsgQ n W1 (V pre) (fun y => RY x y q) (NB x)) n assign (putsR ps (enc x) r) [] W1 (V pre) [])
    (hbody : ∀ l pre x y W1, pre.length < N → Mem W chg (V pre ++ n0) W1 → InR l W1 ((V pre ++ NB x y).map (·.1)) → (∀ b, (∃ o, (b, o) ∈ chg ++ n0) ∨ b < W.heap.size → b ∉ (V pre ++ NB x y).map (·.1)) →
      RunCR (some l) P (BodyX W1 ((V []).map (·.1)) ((NB x y).map (·.1)) (V (pre ++ [x])) (fun c V' => Stp c (pre ++ [x]) V')) n body (RY x y q) [] W1 (V pre ++ NB x y) [])
    (h : ∀ xs D, S xs → RunE Q n .normal r ({ target := .collected D, args := #[] } :: ds) W chg ((D, .deferred (some [])) :: (V xs ++ n0)))
    (h2 : ∀ c pre V' D, Sp pre → V'.map (·.1) = (V []).map (·.1) → Stp c pre V' → RunC P Q n c r ({ target := .collected D, args := #[] } :: ds) W chg ((D, .deferred (some [])) :: (V' ++ n0))) :
    RunC P Q n (.rangeFunc g ps.toArray assign body) r ds W chg news :=
  RunC.rangeH' (RY := fun x y => RY x y q) ⟨hnm, hcl, hcn, hlen, fun p hp => Nat.le_of_ble_eq_true (List.all_eq_true.1 hin p hp), hasg, hbody⟩ hg he hn hseq h h2
theorem RunCR.rangeN {α Y : Type} {l : Nat} {g : Operand} {gf : Nat} {lb : Array Value} {S Sp : List α → Prop} {ps : List Nat} {assign body : Code} {q : Regs} {N : Nat} (n0 : Blks) (enc : α → List Value) (V : List α → Blks) (RY : α → Y → Regs → Regs) (NB : α → Y → Blks) (Stp : Code → List α → Blks → Prop) {nm : List Nat} (hL : InR l W nm) (hcm : chg.map (·.1) = nm)
    (_hs : Sub q r) (hn : Pick (V [] ++ n0) news) (hnm : ∀ pre, (V pre).map (·.1) = (V []).map (·.1)) (hcl : ∀ pre b o, (b, o) ∈ V pre → o.isCells = true) (hcn : ∀ x y b o, (b, o) ∈ NB x y → o.isCells = true)
    (hlen : ∀ x, (enc x).length = ps.length) (hin : (ps.all fun p => Nat.ble (p + 1) n) = true) (hg : rev r g = some (.func (.func gf) #[] lb)) (he : Enters P gf)
    (hseq : ∀ w, Mem W chg (V [] ++ n0) w → SeqStopsK (Fr none) 8 P gf lb (fun x => (enc x).toArray) (KpX w.heap.size ((V []).map (·.1))) S Sp N w)
    (hasg : ∀ l pre x W1, Mem W chg (V pre ++ n0) W1 → RunCR (some l) P (AsgQ n W1 (V pre) (fun y => RY x y q) (NB x)) n assign (putsR ps (enc x) r) [] W1 (V pre) [])
    (hbody : ∀ l pre x y W1, pre.length < N → Mem W chg (V pre ++ n0) W1 → InR l W1 ((V pre ++ NB x y).map (·.1)) → (∀ b, (∃ o, (b, o) ∈ chg ++ n0) ∨ b < W.heap.size → b ∉ (V pre ++ NB x y).map (·.1)) →
      RunCR (some l) P (BodyX W1 ((V []).map (·.1)) ((NB x y).map (·.1)) (V (pre ++ [x])) (fun c V' => Stp c (pre ++ [x]) V')) n body (RY x y q) [] W1 (V pre ++ NB x y) [])
    (h : ∀ xs, S xs → RunE Q n .normal r ds W chg (V xs ++ n0))
    (h2 : ∀ c pre V', Sp pre → V'.map (·.1) = (V []).map (·.1) → Stp c pre V' → RunCR (some l) P Q n c r ds W chg (V' ++ n0)) :
    RunCR (some l) P Q n (.rangeFunc g ps.toArray assign body) r ds W chg news :=
  RunCR.rangeN' (RY := fun x y => RY x y q) ⟨hnm, hcl, hcn, hlen, fun p hp => Nat.le_of_ble_eq_true (List.all_eq_true.1 hin p hp), hasg, hbody⟩ hL hcm hg he hn hseq h h2
/-- What lay before a loop lies in its rounds. -/
theorem Mem.flat {w W1 : World} {n1 c1 nw : Blks} (hI : Mem W [] n1 W1) (hm : Mem W1 c1 nw w) (hc : ∀ b, b < W.heap.size → b ∉ c1.map (·.1)) : Mem W [] [] w :=
  ⟨hm.os.trans hI.os, hm.tape.trans hI.tape, hm.output.trans hI.output, Nat.le_trans hI.size hm.size, fun k hk _ => (hm.old k (Nat.lt_of_lt_of_le hk hI.size) (fun o ho => hc k hk (mem_names.2 ⟨o, ho⟩))).trans (hI.old k hk (by simp)), fun _ _ h => (by cases h), fun _ _ h => (by cases h), by simp⟩

/-! ### Leaving a function that holds loops -/
def markD (D : Nat) : Deferred := { target := .collected D, args := #[] }
def markB (D : Nat) : Nat × Obj := (D, .deferred (some []))
theorem leavesM_marks {fn : Func} {R : Ending → World → Prop} {tl : List Deferred} {t : Array Value} {news2 : Blks} (hend : ∀ w, Mem W chg news2 w → LeavesInM Fence.wide 9 P fn t R tl .returning w) : ∀ (Ds : List Nat) (w : World), Mem W chg (Ds.map markB ++ news2) w → LeavesInM Fence.wide 9 P fn t R (Ds.map markD ++ tl) .returning w
  | [], w, hm => hend w hm
  | D :: Ds, w, hm => ⟨by simp, .inl ⟨D, _, rfl, run_takeDeferred (hm.newd D _ (List.mem_cons_self ..)).2, leavesM_marks hend Ds _ (hm.putNew _)⟩⟩
theorem leaves_nil {fn : Func} {R : Ending → World → Prop} {news2 : Blks} {v : Value} {a : Act} (hag : Agree a r) (hv : ResVs P r (chg ++ news2) fn v) (hR : ∀ w, Mem W chg news2 w → R (.returned v) w) : ∀ w, Mem W chg news2 w → LeavesInM Fence.wide 9 P fn a.tmps R [] .returning w := fun w hm =>
  ⟨v, hv.run hag (fun _ _ h => hm.at h), hR w hm⟩
theorem leaves_closure {fn : Func} {f : FuncId} {T : TypeId} {mis : Int → Value} {R : Ending → World → Prop} {news2 : Blks} {v : Value} {b : Nat} {a : Act} (hc : CatchesIn P f T mis) (he : Enters P f) (hag : Agree a r) (hv : ResVs P r (chg ++ news2) fn v) (hR : ∀ w, Mem W chg news2 w → R (.returned v) w) :
    ∀ w, Mem W chg news2 w → LeavesInM Fence.wide 9 P fn a.tmps R [{ target := .fn (.func f) #[.pointer (some ⟨b, 0, none⟩)], args := #[] }] .returning w := fun w hm => by
  refine ⟨by simp, .inr ⟨fun h => (by cases h), _, _, f, #[.pointer (some ⟨b, 0, none⟩)], rfl, by simp [invoke]; exact he _ _, fun _ _ => trivial, (hc.calm b w).mono ?_⟩⟩
  rintro e u w' ⟨⟨x, rfl⟩, rfl, hm'⟩
  have hm2 := hm.pass hm'
  exact ⟨v, hv.run hag (fun _ _ h => hm2.at h), hR _ hm2⟩
theorem leaves_plain {fn : Func} {f : FuncId} {T : TypeId} {mis : Int → Value} {R : Ending → World → Prop} {news2 : Blks} {v : Value} {b : Nat} {a : Act} (hc : CatchesIn P f T mis) (he : Enters P f) (hag : Agree a r) (hv : ResVs P r (chg ++ news2) fn v) (hR : ∀ w, Mem W chg news2 w → R (.returned v) w) :
    ∀ w, Mem W chg news2 w → LeavesInM Fence.wide 9 P fn a.tmps R [{ target := .fn (.func f) #[], args := #[.pointer (some ⟨b, 0, none⟩)] }] .returning w := fun w hm => by
  refine ⟨by simp, .inr ⟨fun h => (by cases h), _, _, f, #[.pointer (some ⟨b, 0, none⟩)], rfl, by simp [invoke]; exact he _ _, fun _ _ => trivial, (hc.calm b w).mono ?_⟩⟩
  rintro e u w' ⟨⟨x, rfl⟩, rfl, hm'⟩
  have hm2 := hm.pass hm'
  exact ⟨v, hv.run hag (fun _ _ h => hm2.at h), hR _ hm2⟩
/-- Leaving with marks, and nothing else. -/
theorem RunE.outM {fn : Func} {R : Ending → World → Prop} {v : Value} {news2 : Blks} (Ds : List Nat) (hp : Pick (Ds.map markB ++ news2) news) (hv : ResVs P r (chg ++ news2) fn v) (hR : ∀ w, Mem W chg news2 w → R (.returned v) w) :
    RunE (bodyPostM Fence.wide 9 P fn R) n .ret r (Ds.map markD ++ []) W chg news := fun a w s => by
  show LeavesInM _ _ _ _ _ _ a.defers _ w
  rw [s.defers]
  exact leavesM_marks (leaves_nil s.agree hv hR) Ds w (s.mem.pick hp)
theorem RunE.outM_fin {fn : Func} {R : Ending → World → Prop} {v : Value} {news2 : Blks} (Ds : List Nat) (hp : Pick (Ds.map markB ++ news2) news) (hv : ResVs P r (chg ++ news2) fn v) (hR : ∀ w, Mem W chg news2 w → R (.returned v) w) :
    RunE (bodyPostM Fence.wide 9 P fn R) n .normal r (Ds.map markD ++ []) W chg news := fun a w s => by
  show LeavesInM _ _ _ _ _ _ a.defers _ w
  rw [s.defers]
  exact leavesM_marks (leaves_nil s.agree hv hR) Ds w (s.mem.pick hp)
/-- Leaving with marks, and a deferred closure that recovers. -/
theorem RunE.outMC {fn : Func} {f : FuncId} {T : TypeId} {mis : Int → Value} {R : Ending → World → Prop} {v : Value} {b : Nat} {news2 : Blks} (Ds : List Nat) (hc : CatchesIn P f T mis) (he : Enters P f) (hp : Pick (Ds.map markB ++ news2) news) (hv : ResVs P r (chg ++ news2) fn v) (hR : ∀ w, Mem W chg news2 w → R (.returned v) w) :
    RunE (bodyPostM Fence.wide 9 P fn R) n .ret r (Ds.map markD ++ [{ target := .fn (.func f) #[.pointer (some ⟨b, 0, none⟩)], args := #[] }]) W chg news := fun a w s => by
  show LeavesInM _ _ _ _ _ _ a.defers _ w
  rw [s.defers]
  exact leavesM_marks (leaves_closure hc he s.agree hv hR) Ds w (s.mem.pick hp)
theorem RunE.outMC_fin {fn : Func} {f : FuncId} {T : TypeId} {mis : Int → Value} {R : Ending → World → Prop} {v : Value} {b : Nat} {news2 : Blks} (Ds : List Nat) (hc : CatchesIn P f T mis) (he : Enters P f) (hp : Pick (Ds.map markB ++ news2) news) (hv : ResVs P r (chg ++ news2) fn v) (hR : ∀ w, Mem W chg news2 w → R (.returned v) w) :
    RunE (bodyPostM Fence.wide 9 P fn R) n .normal r (Ds.map markD ++ [{ target := .fn (.func f) #[.pointer (some ⟨b, 0, none⟩)], args := #[] }]) W chg news := fun a w s => by
  show LeavesInM _ _ _ _ _ _ a.defers _ w
  rw [s.defers]
  exact leavesM_marks (leaves_closure hc he s.agree hv hR) Ds w (s.mem.pick hp)
/-- Leaving with marks, and a deferred function that recovers. -/
theorem RunE.outMD {fn : Func} {f : FuncId} {T : TypeId} {mis : Int → Value} {R : Ending → World → Prop} {v : Value} {b : Nat} {news2 : Blks} (Ds : List Nat) (hc : CatchesIn P f T mis) (he : Enters P f) (hp : Pick (Ds.map markB ++ news2) news) (hv : ResVs P r (chg ++ news2) fn v) (hR : ∀ w, Mem W chg news2 w → R (.returned v) w) :
    RunE (bodyPostM Fence.wide 9 P fn R) n .ret r (Ds.map markD ++ [{ target := .fn (.func f) #[], args := #[.pointer (some ⟨b, 0, none⟩)] }]) W chg news := fun a w s => by
  show LeavesInM _ _ _ _ _ _ a.defers _ w
  rw [s.defers]
  exact leavesM_marks (leaves_plain hc he s.agree hv hR) Ds w (s.mem.pick hp)
theorem RunE.outMD_fin {fn : Func} {f : FuncId} {T : TypeId} {mis : Int → Value} {R : Ending → World → Prop} {v : Value} {b : Nat} {news2 : Blks} (Ds : List Nat) (hc : CatchesIn P f T mis) (he : Enters P f) (hp : Pick (Ds.map markB ++ news2) news) (hv : ResVs P r (chg ++ news2) fn v) (hR : ∀ w, Mem W chg news2 w → R (.returned v) w) :
    RunE (bodyPostM Fence.wide 9 P fn R) n .normal r (Ds.map markD ++ [{ target := .fn (.func f) #[], args := #[.pointer (some ⟨b, 0, none⟩)] }]) W chg news := fun a w s => by
  show LeavesInM _ _ _ _ _ _ a.defers _ w
  rw [s.defers]
  exact leavesM_marks (leaves_plain hc he s.agree hv hR) Ds w (s.mem.pick hp)
theorem RunE.panMC {fn : Func} {f : FuncId} {T : TypeId} {mis : Int → Value} {v v0 x : Value} {b : Nat} {k : Int} {news' : Blks} (hc : CatchesIn P f T mis) (he : Enters P f) (hu : Upd news b (.cells #[x] T (0, 0)) (.cells #[.int .i64 k] T (0, 0)) news') (hv : ResVs P r news' fn v) (hv0 : v = v0) :
    RunE (bodyPostM Fence.wide 9 P fn (Pure v0 W)) n (.panic [{ v := mis k, recovered := false }]) r [{ target := .fn (.func f) #[.pointer (some ⟨b, 0, none⟩)], args := #[] }] W [] news := fun a w s => by
  show LeavesInM _ _ _ _ _ _ a.defers _ w
  rw [s.defers]
  refine ⟨by simp, .inr ⟨fun h => (by cases h), _, _, f, #[.pointer (some ⟨b, 0, none⟩)], rfl, by simp [invoke]; exact he _ _, fun _ _ => trivial, (hc.wild b k x w (s.mem.newd _ _ hu.mem).2).mono ?_⟩⟩
  rintro e u w' ⟨⟨y, rfl⟩, rfl, hm⟩
  have hm2 := s.mem.turn_new hu hm
  exact ⟨v, hv.run s.agree (fun _ _ h => hm2.at (by simpa using h)), by rw [hv0], hm2.drop⟩
theorem out_pure {v v0 : Value} (h : v = v0) {news2 : Blks} : ∀ w, Mem W [] news2 w → Pure v0 W (.returned v) w := fun _ hm => ⟨by rw [h], hm.drop⟩
end
end Go.Eng
