/- The engine inside a round of a range over a function: all of its judgements there; ranges whose variables are laid in blocks, ranges in rounds, rounds that break off or return; functions that hold several. No program is in sight. -/
import Derived.Test.YthbiaipagceokaaGreatS00
import Derived.RangeFuncNested
import Derived.OrdersIn
import Derived.ChangeKeysEq
import Derived.Laws.StructEq
import Derived.Maps.RangeRun
import Derived.Lib.Bytealg
import Derived.Laws.BytesString
import Derived.Laws.Strings
import Derived.Laws.Cells
import Derived.Laws.MakeOwn
import Derived.Lib.Builder
import Derived.Room.AppendFits
import Derived.Laws.CopyRow
import Derived.Lib.Join
import Derived.Lib.ItoaNum
import Derived.Lib.AtoiAll
import Derived.Lib.IndexMore
set_option linter.unusedSimpArgs false
set_option linter.unusedVariables false
set_option linter.unusedSectionVars false
namespace Go.Eng
open Go Go.RowKit

theorem AA5 {F : Fence} {n : Nat} {P : Program} {Q : Exit → Act → World → Prop} {a : Act} {w : World} {c : Code} (h : c.wpIn F n P (Exit.noGoto Q) a w) : (Code.scope c).wpIn F n P Q a w := by
  intro b k cs hro hb hr
  have st1 : ∀ a w k, step P (lone (b.atR a (.code (.scope c) :: k)) cs w) = .next (lone (b.atR a (.code c :: .inScope c :: k)) cs w) := fun a w k => step_lone_go (by simp [stepG, stepG.exec, Frame.atR])
  have st2 : ∀ a w k, step P (lone (b.atR a (.inScope c :: k)) cs w) = .next (lone (b.atR a k) cs w) := fun a w k => step_lone_go (by simp [stepG, stepG.exec, Frame.atR])
  have h0 : (lone (b.atR a (.code (.scope c) :: k)) cs w).fenced P F := fenced_calm hb hr rfl
  obtain ⟨e, a₁, w₁, hq, harr⟩ := h b (.inScope c :: k) cs hro hb hr
  cases e with
  | normal => exact ⟨.normal, a₁, w₁, hq, .head h0 (st1 _ _ _) (StepsIn.trans harr (.one (fenced_calm hb hr rfl) (st2 _ _ _)))⟩
  | exit id =>
    have hx : exitTo id (.inScope c :: k) = exitTo id k := by simp [exitTo]
    exact ⟨.exit id, a₁, w₁, hq, fun k' hk => .head h0 (st1 _ _ _) (harr.1 k' (by rw [hx]; exact hk)), fun hr' hk => let ⟨k₁, h1, h2⟩ := harr.2 hr' (by rw [hx]; exact hk); ⟨k₁, h1, .head h0 (st1 _ _ _) h2⟩⟩
  | goto l => exact hq.elim
  | ret => exact ⟨_, a₁, w₁, hq, .of_steps (.one h0 (st1 _ _ _)) harr⟩
  | panic ch => exact ⟨_, a₁, w₁, hq, .of_steps (.one h0 (st1 _ _ _)) harr⟩
  | outgrown => exact ⟨_, a₁, w₁, hq, .of_steps (.one h0 (st1 _ _ _)) harr⟩

section
variable {ro : Option Nat} {P : Program} {ops : Array Oper} {Q : Exit → Act → World → Prop} {n : Nat} {r : Regs} {ds : List Deferred} {W : World} {chg news : Blks} {rest : List Oper}

/-! ### What holds of a region outside of rounds holds inside -/
def noDefers (ops : Array Oper) : Bool := ops.toList.all notDefer
theorem BS4 {row : String} {args : Array Value} {w : World} {R : Value → World → Prop} {m : Nat} (h : Rows P row args w R) : RowsIn (Fr ro) m P row args w R := fun c cs _ =>
  let ⟨v, w', hR, s⟩ := h c cs
  ⟨v, w', hR, by
    have e : Machine.fenced P (Fr ro) = Machine.fenced P Fence.wide := by cases ro <;> rfl
    rw [e]; exact stepsIn_wide.2 s⟩
theorem BL2 {f : FuncId} {args : Array Value} {w : World} {R : Ending → World → Prop} {m : Nat} (h : Calls P f args w R) : CallsIn (Fr ro) m P f args w R := by
  have h2 : CallsIn Fence.wide m P f args w R := callsIn_wide.2 h
  cases ro with
  | none => exact h2
  | some l => exact CallsIn.inRound l h2
theorem BR5 {o : Oper} {a : Act} {K : Act → World → Prop} {x : Result Next} (h : o.upon P a K Q x) : o.uponIn (Fr ro) 9 P a K Q x := by
  cases x with
  | ok nx w' =>
    cases nx <;> simp only [Oper.upon, Oper.uponIn] at h ⊢ <;>
      first
        | exact h
        | exact ⟨fun h => (by cases h), (BL2 h).mono (fun e w'' he => by cases e <;> exact he)⟩
        | exact ⟨fun h => (by cases h), BS4 h⟩
  | halt x w' => cases x <;> simp only [Oper.upon, Oper.uponIn] at h ⊢ <;> exact h
theorem Bw4 {o : Oper} {a : Act} {w : World} {K : Act → World → Prop} (hnd : notDefer o = true) (hlo : LetsOut Q → False) (h : o.wp P a w K Q ∨ (o.asks P a w ∧ LetsOut Q)) : o.wpIn (Fr ro) 9 P a w K Q := by
  rcases h with h | h
  · refine ⟨fun _ _ => trivial, ?_⟩
    rw [Oper.semAt_eq _ _ _ (Ao7 hnd)]
    exact BR5 h
  · exact (hlo h.2).elim
theorem Bf1 (hlo : LetsOut Q → False) : ∀ (l : List Oper) (a : Act) (w : World), l.all notDefer = true → wpList P ops Q l a w → wpListIn (Fr ro) 9 P ops Q l a w
  | [], _, _, _, h => h
  | o :: l, a, w, hn, h => by
    simp only [List.all_cons, Bool.and_eq_true] at hn
    simp only [wpList, wpListIn] at h ⊢
    split
    · rename_i hw
      rw [if_pos hw] at h
      exact Bw4 hn.1 hlo (h.imp (Oper.wp_mono (fun a w h => Bf1 hlo l a w hn.2 h)) id)
    · rename_i hw
      rw [if_neg hw] at h
      exact ⟨fun _ _ => trivial, Bf1 hlo l _ _ hn.2 h⟩
theorem Cf1 {i : Nat} {K K' : Act → World → Prop} {a : Act} {w : World} (hn : noDefers ops = true) (hlo : LetsOut Q → False) (hK : ∀ a w, K a w → K' a w) (h : wpOp P ops Q i K a w) : wpOpIn (Fr ro) 9 P ops Q i K' a w := by
  unfold wpOp at h
  unfold wpOpIn
  cases ho : ops[i]? with
  | none => simp only [ho] at h ⊢; exact hK _ _ h
  | some o =>
    simp only [ho] at h ⊢
    have hnd : notDefer o = true := List.all_eq_true.1 hn o (by
      obtain ⟨h1, h2⟩ := Array.getElem?_eq_some_iff.1 ho
      rw [← h2]; exact Array.mem_toList_iff.2 (Array.getElem_mem h1))
    split
    · rename_i hw
      rw [if_pos hw] at h
      exact Bw4 hnd hlo (h.imp (Oper.wp_mono hK) id)
    · rename_i hw
      rw [if_neg hw] at h
      exact ⟨fun _ _ => trivial, hK _ _ h⟩
theorem BQ6 (hn : noDefers ops = true) (hlo : LetsOut Q → False) : ∀ (fuel : Nat) (listed : Array Bool) (a : Act) (w : World), wpAny P .any ops Q fuel listed a w → wpAnyIn (Fr ro) 9 P .any ops Q fuel listed a w
  | 0, _, _, _, h => h
  | fuel + 1, _, _, _, h => ⟨h.1, fun i hi => Cf1 hn hlo (fun a' w' h' => BQ6 hn hlo fuel _ a' w' h') (h.2 i hi)⟩
theorem By2 {Q : Exit → Act → World → Prop} (h : ∀ a w, Q .outgrown a w → False) : LetsOut Q → False := fun ⟨a, w, hq⟩ => h a w hq

theorem Ad5 {id : Nat} {l : List Oper} (h : RunL P l.toArray Q n l r ds W chg news) (hnd : l.all notDefer = true := by rfl) (hlo : ∀ a w, Q .outgrown a w → False := by exact fun _ _ h => h) : RunCR ro P Q n (.region id l.toArray false) r ds W chg news := fun a w s =>
  wpIn_region_lit (Bf1 (By2 hlo) l a w hnd (h a w s))
theorem AO2 {id : Nat} {l : List Oper} {news0 : Blks} (k : Nat) (hm : P.follows .mixedOrders = true) (_hp : Pick news0 news) (h : RunA P l.toArray Q k (fun c => c.map (·.1) = chg.map (·.1)) news0 n l.toArray.size (Array.replicate l.toArray.size false) r ds W chg news) (hnd : noDefers l.toArray = true := by rfl) (hlo : ∀ a w, Q .outgrown a w → False := by exact fun _ _ h => h) : RunCR ro P Q n (.region id l.toArray true) r ds W chg news := fun a _ s =>
  wpIn_region_any hm (BQ6 hnd (By2 hlo) _ _ _ _ (Al9 _ _ _ _ (h a _ s.drew Closed.start)))
theorem RunCR.scope {c : Code} (h : RunCR ro P (Exit.noGoto Q) n c r ds W chg news) : RunCR ro P Q n (.scope c) r ds W chg news := fun a w s => AA5 (h a w s)
theorem RunCR.label {l : Nat} (h : RunE Q n .normal r ds W chg news) : RunCR ro P Q n (.label l) r ds W chg news := fun a w s => wpIn_label (h a w s)
theorem AR8 {c : Code} {q : Regs} {news' : Blks} (hs : Sub q r) (hn : Pick news' news) (h : RunCR ro P Q n c q ds W chg news') : RunCR ro P Q n c r ds W chg news := fun a w s => h a w (s.pick hs hn)
theorem Bc9 {body : Code} (k : Nat) (h : RunCR ro P (Exit.then (Code.roundsIn (Fr ro) 9 P body Q k) Q) n body r ds W chg news) : RunCR ro P Q n (.loop body) r ds W chg news := fun a w s => wpIn_loop_rounds (k + 1) (h a w s)
theorem AH4 {body : Code} {k : Nat} (h : RunCR ro P (Exit.then (Code.roundsIn (Fr ro) 9 P body Q k) Q) n body r ds W chg news) : RunE (Exit.then (Code.roundsIn (Fr ro) 9 P body Q (k + 1)) Q) n .normal r ds W chg news := fun a w s => h a w s
end

/-! ### Ranges -/
section
variable {ro : Option Nat} {P : Program} {ops : Array Oper} {Q : Exit → Act → World → Prop} {n : Nat} {r : Regs} {ds : List Deferred} {W : World} {chg news : Blks} {rest : List Oper}

/-- The registers behind the parameters of a round. -/
def putsR : List Nat → List Value → Regs → Regs
  | p :: ps, v :: vs, r => putsR ps vs ((p, v) :: r)
  | _, _, r => r
theorem AB0 : ∀ (ps : List Nat) (vs : List Value) (t : Array Value) (r : Regs), (∀ p ∈ ps, p < t.size) → (∀ u v, rget r u = some v → t[u]? = some v) →
    (∀ u v, rget (putsR ps vs r) u = some v → ((ps.zip vs).foldl (fun t (pv : Nat × Value) => t.setIfInBounds pv.1 pv.2) t)[u]? = some v) ∧ ((ps.zip vs).foldl (fun t (pv : Nat × Value) => t.setIfInBounds pv.1 pv.2) t).size = t.size
  | [], vs, t, r, _, h => by simpa [putsR] using h
  | p :: ps, [], t, r, _, h => by simpa [putsR] using h
  | p :: ps, v :: vs, t, r, hp, h => by
    have h1 := AB0 ps vs (t.setIfInBounds p v) ((p, v) :: r) (fun q hq => by rw [Array.size_setIfInBounds]; exact hp q (by simp [hq])) (fun u x hu => by
      have ha : Agree { tmps := t, defers := [] } r := h
      have := ha.put (d := p) (v := v) (hp p (by simp)) u x hu
      simpa [Act.put] using this)
    simpa [putsR] using h1
/-- Where the record of a round's loop lies, and that it is none of the blocks that turn. -/
structure InR (l : Nat) (W : World) (nm : List Nat) : Prop where
  rec' : ∃ x, W.heap[l]? = some (.loop x)
  notin : l ∉ nm
/-- The variables of a round are there. -/
def AsgQ {Y : Type} (n : Nat) (W : World) (V : Blks) (R : Y → Regs) (NB : Y → Blks) : Exit → Act → World → Prop
  | .normal, a, w => ∃ y, St n (R y) [] W V (NB y) a w
  | _, _, _ => False
theorem BM3 {Y : Type} {R : Y → Regs} {NB : Y → Blks} {V : Blks} (y : Y) (hc : chg = V) (hs : Sub (R y) r) (hn : Pick (NB y) news) : RunE (AsgQ n W V R NB) n .normal r [] W chg news := fun _ _ s => ⟨y, by subst hc; exact s.pick hs hn⟩
/-- How a round may be left: on to the next one, with the blocks V; or out of the loop. -/
def BodyX (W : World) (nv nb : List Nat) (V : Blks) (Stp : Code → Blks → Prop) : Exit → Act → World → Prop
  | .normal, _, w => ∃ B, B.map (·.1) = nb ∧ Mem W (V ++ B) [] w
  | .ret, _, w => ∃ V' B, V'.map (·.1) = nv ∧ B.map (·.1) = nb ∧ Stp .ret V' ∧ Mem W (V' ++ B) [] w
  | .exit id, _, w => ∃ V' B, V'.map (·.1) = nv ∧ B.map (·.1) = nb ∧ Stp (.exit id) V' ∧ Mem W (V' ++ B) [] w
  | _, _, _ => False
theorem At0 {nv nb : List Nat} {V : Blks} {Stp : Code → Blks → Prop} (B : Blks) (hc : chg = V ++ B) (hb : B.map (·.1) = nb := by rfl) : RunE (BodyX W nv nb V Stp) n .normal r ds W chg news := fun _ _ s => ⟨B, hb, hc ▸ s.mem.drop⟩
theorem AO1 {id : Nat} {nv nb : List Nat} {V : Blks} {Stp : Code → Blks → Prop} (V' B : Blks) (hs : Stp (.exit id) V') (hc : chg = V' ++ B) (hv : V'.map (·.1) = nv := by rfl) (hb : B.map (·.1) = nb := by rfl) : RunE (BodyX W nv nb V Stp) n (.exit id) r ds W chg news := fun _ _ s => ⟨V', B, hv, hb, hs, hc ▸ s.mem.drop⟩

/-- And, where the loop goes on, something is so. -/
def BodyI (I : Prop) (Q : Exit → Act → World → Prop) : Exit → Act → World → Prop
  | .normal, a, w => I ∧ Q .normal a w
  | e, a, w => Q e a w
theorem RunCR.bodyT {ro : Option Nat} {c : Code} (h : RunCR ro P Q n c r ds W chg news) : RunCR ro P (BodyI True Q) n c r ds W chg news := fun a w s =>
  Go.wpIn_mono (h a w s) (fun e a2 w2 hq => by
    cases e with
    | normal => exact ⟨trivial, hq⟩
    | _ => exact hq)
theorem Mem.roundN {w w' : World} {V V' n0 B : Blks} (h : Mem W chg (V ++ n0) w) (h' : Mem w (V' ++ B) [] w') (hm : V'.map (·.1) = V.map (·.1)) (hB : ∀ b ∈ B.map (·.1), W.heap.size ≤ b ∧ ∀ o, (b, o) ∉ chg ++ (V ++ n0)) : Mem W chg (V' ++ n0) w' := by
  have hV : ∀ b, (∃ o, (b, o) ∈ V') ↔ ∃ o, (b, o) ∈ V := fun b => by rw [← Ad2, ← Ad2, hm]
  have hge : ∀ b o, (b, o) ∈ V' → W.heap.size ≤ b := fun b o hb => by
    obtain ⟨o2, h2⟩ := (hV b).1 ⟨o, hb⟩
    exact (h.newd b o2 (List.mem_append.2 (.inl h2))).1
  have hnd := h.once
  have hout : ∀ b o, (b, o) ∈ B → W.heap.size ≤ b ∧ ∀ o, (b, o) ∉ chg ++ (V ++ n0) := fun b o hb => hB b (Ad2.2 ⟨o, hb⟩)
  refine ⟨h'.os.trans h.os, h'.tape.trans h.tape, h'.output.trans h.output, Nat.le_trans h.size h'.size, fun k hk hc => ?_, fun b o hb => ?_, fun b o hb => ?_, ?_⟩
  · rw [h'.old k (Nat.lt_of_lt_of_le hk h.size) (fun o ho => by
      rcases List.mem_append.1 ho with ho | ho
      · have := hge k o ho; omega
      · have := (hout k o ho).1; omega)]
    exact h.old k hk hc
  · have h1 := h.chgd b o hb
    refine ⟨h1.1, ?_⟩
    rw [h'.old b (h.lt_new (List.mem_append.2 (.inl hb))) (fun o2 ho => ?_)]
    · exact h1.2
    · rcases List.mem_append.1 ho with ho | ho
      · have := hge b o2 ho; omega
      · exact (hout b o2 ho).2 o (List.mem_append.2 (.inl hb))
  · rcases List.mem_append.1 hb with hb | hb
    · exact ⟨hge b o hb, h'.at (by simp [hb])⟩
    · have h1 := h.newd b o (List.mem_append.2 (.inr hb))
      refine ⟨h1.1, ?_⟩
      rw [h'.old b (h.lt_new (List.mem_append.2 (.inr (List.mem_append.2 (.inr hb))))) (fun o2 ho => ?_)]
      · exact h1.2
      · rcases List.mem_append.1 ho with ho | ho
        · obtain ⟨o3, h3⟩ := (hV b).1 ⟨o2, ho⟩
          rw [List.map_append, List.map_append, List.nodup_append] at hnd
          have h4 := (List.nodup_append.1 hnd.2.1).2.2 b (Ad2.2 ⟨o3, h3⟩) b (Ad2.2 ⟨o, hb⟩)
          exact h4 rfl
        · exact (hout b o2 ho).2 o (List.mem_append.2 (.inr (List.mem_append.2 (.inr hb))))
  · have e : (chg ++ (V' ++ n0)).map (·.1) = (chg ++ (V ++ n0)).map (·.1) := by simp [List.map_append, hm]
    rw [e]; exact hnd
/-- The variables of a round, held. -/
structure Held (n B : Nat) (r : Regs) (NB : Blks) (a : Act) (w : World) : Prop where
  size : a.tmps.size = n
  agree : Agree a r
  defers : a.defers = []
  held : ∀ b o, (b, o) ∈ NB → B ≤ b ∧ w.heap[b]? = some o
  once : (NB.map (·.1)).Nodup

/-- What a range and its rounds must be, wherever the loop stands. -/
structure RangeOk {α Y : Type} (P : Program) (n N : Nat) (r : Regs) (W : World) (chg n0 : Blks) (ps : List Nat) (assign body : Code) (enc : α → List Value) (V : List α → Blks) (RY : α → Y → Regs) (NB : α → Y → Blks) (Stp : Code → List α → Blks → Prop) (Iv : List α → Prop) : Prop where
  iv0 : Iv []
  names : ∀ pre, (V pre).map (·.1) = (V []).map (·.1)
  cellsN : ∀ x y b o, (b, o) ∈ NB x y → o.isCells = true
  lens : ∀ x, (enc x).length = ps.length
  inps : ∀ p ∈ ps, p < n
  asg : ∀ l pre x W1, Mem W chg (V pre ++ n0) W1 → RunCR (some l) P (AsgQ n W1 (V pre) (RY x) (NB x)) n assign (putsR ps (enc x) r) [] W1 (V pre) []
  body : ∀ l pre x y W1, pre.length < N → Iv pre → Mem W chg (V pre ++ n0) W1 → InR l W1 ((V pre ++ NB x y).map (·.1)) → (∀ b, (∃ o, (b, o) ∈ chg ++ n0) ∨ b < W.heap.size → b ∉ (V pre ++ NB x y).map (·.1)) → RunCR (some l) P (BodyI (Iv (pre ++ [x])) (BodyX W1 ((V []).map (·.1)) ((NB x y).map (·.1)) (V (pre ++ [x])) (fun c V' => Stp c (pre ++ [x]) V'))) n body (RY x y) [] W1 (V pre ++ NB x y) []

variable {α Y : Type} {N : Nat} {n0 : Blks} {ps : List Nat} {assign body : Code} {enc : α → List Value} {V : List α → Blks} {RY : α → Y → Regs} {NB : α → Y → Blks} {Stp : Code → List α → Blks → Prop} {Iv : List α → Prop}

theorem RangeOk.lt (H : RangeOk P n N r W chg n0 ps assign body enc V RY NB Stp Iv) {w : World} (s0 : Mem W chg (V [] ++ n0) w) : ∀ pre b o, (b, o) ∈ chg ++ (V pre ++ n0) → b < w.heap.size := fun pre b o hb => by
  rcases List.mem_append.1 hb with hb | hb
  · exact s0.lt_new (List.mem_append.2 (.inl hb))
  · rcases List.mem_append.1 hb with hb | hb
    · have : b ∈ (V pre).map (·.1) := Ad2.2 ⟨o, hb⟩
      rw [H.names pre] at this
      obtain ⟨o2, h2⟩ := Ad2.1 this
      exact s0.lt_new (List.mem_append.2 (.inr (List.mem_append.2 (.inl h2))))
    · exact s0.lt_new (List.mem_append.2 (.inr (List.mem_append.2 (.inr hb))))
/-- What is known of the memory from round to round. -/
def RI (W : World) (chg n0 : Blks) (V : List α → Blks) (B : Nat) (pre : List α) (W' : World) : Prop := Mem W chg (V pre ++ n0) W' ∧ B ≤ W'.heap.size
/-- What is known behind a round that leaves the loop. -/
def RIx (W : World) (chg n0 : Blks) (nv : List Nat) (Stp : Code → List α → Blks → Prop) (B : Nat) (c : Code) (pre : List α) (W' : World) : Prop := ∃ V', V'.map (·.1) = nv ∧ Stp c pre V' ∧ Mem W chg (V' ++ n0) W' ∧ B ≤ W'.heap.size
def RJ (W : World) (chg n0 : Blks) (V : List α → Blks) (Iv : List α → Prop) (B : Nat) (pre : List α) (W' : World) : Prop := RI W chg n0 V B pre W' ∧ Iv pre
theorem RangeOk.own (H : RangeOk P n N r W chg n0 ps assign body enc V RY NB Stp Iv) {w : World} (s0 : Mem W chg (V [] ++ n0) w) : OwnFrom w.heap.size (RI W chg n0 V w.heap.size) := fun pre _ _ _ hI hgr hr =>
  ⟨hI.1.turned hgr (fun k e => (hr k e).1) (H.lt s0 pre) s0.size, Nat.le_trans hI.2 hgr.size⟩
theorem RangeOk.ownJ (H : RangeOk P n N r W chg n0 ps assign body enc V RY NB Stp Iv) {w : World} (s0 : Mem W chg (V [] ++ n0) w) : OwnFrom w.heap.size (RJ W chg n0 V Iv w.heap.size) := fun pre _ _ _ hI hgr hr => ⟨H.own s0 pre _ _ _ hI.1 hgr hr, hI.2⟩
theorem RangeOk.ownX (H : RangeOk P n N r W chg n0 ps assign body enc V RY NB Stp Iv) {w : World} (s0 : Mem W chg (V [] ++ n0) w) (c : Code) : OwnFrom w.heap.size (RIx W chg n0 ((V []).map (·.1)) Stp w.heap.size c) := fun pre _ _ _ hI hgr hr => by
  obtain ⟨V', h1, h2, h3, h4⟩ := hI
  refine ⟨V', h1, h2, h3.turned hgr (fun k e => (hr k e).1) (fun b o hb => ?_) s0.size, Nat.le_trans h4 hgr.size⟩
  rcases List.mem_append.1 hb with hb | hb
  · exact H.lt s0 [] b o (List.mem_append.2 (.inl hb))
  · rcases List.mem_append.1 hb with hb | hb
    · have : b ∈ V'.map (·.1) := Ad2.2 ⟨o, hb⟩
      rw [h1] at this
      obtain ⟨o2, h2⟩ := Ad2.1 this
      exact H.lt s0 [] b o2 (List.mem_append.2 (.inr (List.mem_append.2 (.inl h2))))
    · exact H.lt s0 [] b o (List.mem_append.2 (.inr (List.mem_append.2 (.inr hb))))
theorem RangeOk.ownA (H : RangeOk P n N r W chg n0 ps assign body enc V RY NB Stp Iv) {B : Nat} (x : α) (a' : Act) : OwnFrom B (fun (_ : Unit) W' => ∃ y, Held n B (RY x y) (NB x y) a' W') := fun _ A C row hI hgr hr => by
  obtain ⟨y, h⟩ := hI
  refine ⟨y, h.size, h.agree, h.defers, fun b o hb => ?_, h.once⟩
  obtain ⟨h1, h2⟩ := h.held b o hb
  refine ⟨h1, ?_⟩
  rw [hgr.block b (Array.getElem?_eq_some_iff.1 h2).1 (fun e => ?_)]
  · exact h2
  · obtain ⟨_, o2, h3, h4⟩ := hr b e.symm
    rw [h2] at h3
    cases h3
    rw [H.cellsN x y b o hb] at h4
    cases h4
theorem AD7 {w w' : World} {B : Nat} {V : Blks} (h : Mem w V [] w') (hv : ∀ b o, (b, o) ∈ V → b < B ∨ ∃ o', w.heap[b]? = some o' ∧ o'.isCells = true) : KeepsFrom B w w' :=
  ⟨h.size, fun k o hB hk ho => by
    rw [h.old k (Array.getElem?_eq_some_iff.1 hk).1 (fun o2 ho2 => ?_)]
    · exact hk
    · rcases hv k o2 ho2 with h1 | ⟨o3, h3, h4⟩
      · omega
      · rw [hk] at h3; cases h3; rw [ho] at h4; cases h4⟩
theorem RangeOk.asgW (H : RangeOk P n N r W chg n0 ps assign body enc V RY NB Stp Iv) {a : Act} {w : World} (s : St n r ds W chg (V [] ++ n0) a w) (l : Nat) (pre : List α) (x : α) (W1 : World) (K : Act → World → Prop) (hI : RI W chg n0 V w.heap.size pre W1)
    (hK : ∀ a' W', KeepsFrom w.heap.size W1 W' → KpX w.heap.size ((V []).map (·.1)) W1 W' → RI W chg n0 V w.heap.size pre W' → (∃ y, Held n w.heap.size (RY x y) (NB x y) a' W') → K a' W') :
    assign.wpIn ((Fr none).inRound l) 7 P (Exit.then K (fun _ _ _ => False)) { tmps := (ps.toArray.zip (enc x).toArray).foldl (fun t (p, v) => t.setIfInBounds p v) a.tmps, defers := [] } W1 := by
  have hp := AB0 ps (enc x) a.tmps r (fun p hp => by rw [s.size]; exact H.inps p hp) (fun u v hu => s.agree u v hu)
  have e : (ps.toArray.zip (enc x).toArray).foldl (fun t (pv : Nat × Value) => t.setIfInBounds pv.1 pv.2) a.tmps = (ps.zip (enc x)).foldl (fun t (pv : Nat × Value) => t.setIfInBounds pv.1 pv.2) a.tmps := by
    rw [← Array.foldl_toList, Array.toList_zip]
  have hst : Mem W1 (V pre) [] W1 := ⟨rfl, rfl, rfl, Nat.le_refl _, fun _ _ _ => rfl, fun b o hb => ⟨hI.1.lt_new (List.mem_append.2 (.inr (List.mem_append.2 (.inl hb)))), (hI.1.newd b o (List.mem_append.2 (.inl hb))).2⟩, fun _ _ hb => (by cases hb), by
    have := hI.1.once
    rw [List.map_append, List.map_append, List.nodup_append] at this
    simpa using (List.nodup_append.1 this.2.1).1⟩
  have hr := H.asg l pre x W1 hI.1 { tmps := (ps.zip (enc x)).foldl (fun t (pv : Nat × Value) => t.setIfInBounds pv.1 pv.2) a.tmps, defers := [] } W1 ⟨by rw [hp.2]; exact s.size, fun u v hu => hp.1 u v hu, rfl, hst⟩
  show assign.wpIn (Fr (some l)) 7 P _ { tmps := (ps.toArray.zip (enc x).toArray).foldl (fun t (pv : Nat × Value) => t.setIfInBounds pv.1 pv.2) a.tmps, defers := [] } W1
  rw [e]
  refine Go.wpIn_mono (Aq4 hr) ?_
  intro e a2 w2 hq
  cases e with
  | normal =>
    obtain ⟨y, s2⟩ := hq
    have hlt : ∀ b o, (b, o) ∈ V pre → b < w.heap.size := fun b o hb => H.lt s.mem pre b o (List.mem_append.2 (.inr (List.mem_append.2 (.inl hb))))
    refine hK a2 w2 (AD7 s2.mem.drop (fun b o hb => .inl (hlt b o hb))) (fun k hk hne => s2.mem.old k (Nat.lt_of_lt_of_le hk hI.2) (fun o ho => hne (by rw [← H.names pre]; exact Ad2.2 ⟨o, ho⟩))) ⟨?_, Nat.le_trans hI.2 s2.mem.size⟩ ⟨y, s2.size, s2.agree, s2.defers, fun b o hb => ?_, ?_⟩
    · have h2 := Mem.round hI.1 s2.mem.drop rfl
      exact h2
    · have := s2.mem.newd b o hb
      exact ⟨Nat.le_trans hI.2 this.1, this.2⟩
    · have := s2.mem.once
      rw [List.map_append, List.nodup_append] at this
      exact this.2.1
  | exit id => exact hq.elim
  | goto l => exact hq.elim
  | ret => exact hq.elim
  | panic c => exact hq.elim
  | outgrown => exact hq.elim
theorem RangeOk.round (H : RangeOk P n N r W chg n0 ps assign body enc V RY NB Stp Iv) {a : Act} {w : World} (s : St n r ds W chg (V [] ++ n0) a w) (l : Nat) (pre : List α) (x : α) (a' : Act) (W1 : World) (hl : w.heap.size ≤ l) (hrec : ∃ x, W1.heap[l]? = some (.loop x))
    (hI : RI W chg n0 V w.heap.size pre W1) (hA : ∃ y, Held n w.heap.size (RY x y) (NB x y) a' W1) (hlen : pre.length < N) (hiv : Iv pre) :
    body.wpIn ((Fr none).inRound l) 7 P (ownPostG w.heap.size (KpX w.heap.size ((V []).map (·.1))) (RJ W chg n0 V Iv w.heap.size) (RIx W chg n0 ((V []).map (·.1)) Stp w.heap.size) (pre ++ [x]) W1) a' W1 := by
  obtain ⟨y, hh⟩ := hA
  have hlt : ∀ b o, (b, o) ∈ chg ++ (V pre ++ n0) → b < w.heap.size := H.lt s.mem pre
  have hVlt : ∀ b o, (b, o) ∈ V pre → b < w.heap.size := fun b o hb => hlt b o (List.mem_append.2 (.inr (List.mem_append.2 (.inl hb))))
  have hV' : ∀ (V' : Blks), V'.map (·.1) = (V []).map (·.1) → ∀ b o, (b, o) ∈ V' → b < w.heap.size := fun V' hv b o hb => by
    have : b ∈ V'.map (·.1) := Ad2.2 ⟨o, hb⟩
    rw [hv, ← H.names pre] at this
    obtain ⟨o2, h2⟩ := Ad2.1 this
    exact hVlt b o2 h2
  have hB' : ∀ (B : Blks), B.map (·.1) = (NB x y).map (·.1) → ∀ b o, (b, o) ∈ B → w.heap.size ≤ b ∧ ∃ o', W1.heap[b]? = some o' ∧ o'.isCells = true := fun B hb b o h => by
    have : b ∈ B.map (·.1) := Ad2.2 ⟨o, h⟩
    rw [hb] at this
    obtain ⟨o2, h2⟩ := Ad2.1 this
    obtain ⟨h3, h4⟩ := hh.held b o2 h2
    exact ⟨h3, o2, h4, H.cellsN x y b o2 h2⟩
  have hst : Mem W1 (V pre ++ NB x y) [] W1 := ⟨rfl, rfl, rfl, Nat.le_refl _, fun _ _ _ => rfl, fun b o hb => by
      rcases List.mem_append.1 hb with hb | hb
      · exact ⟨hI.1.lt_new (List.mem_append.2 (.inr (List.mem_append.2 (.inl hb)))), (hI.1.newd b o (List.mem_append.2 (.inl hb))).2⟩
      · have h1 := (hh.held b o hb).2
        exact ⟨(Array.getElem?_eq_some_iff.1 h1).1, h1⟩, fun _ _ hb => (by cases hb), by
      have h1 := hI.1.once
      rw [List.map_append, List.map_append, List.nodup_append] at h1
      rw [List.append_nil, List.map_append, List.nodup_append]
      refine ⟨(List.nodup_append.1 h1.2.1).1, hh.once, fun b hb c hc e => ?_⟩
      subst e
      obtain ⟨o, ho⟩ := Ad2.1 hb
      obtain ⟨o2, ho2⟩ := Ad2.1 hc
      have := hVlt b o ho
      have := (hh.held b o2 ho2).1
      omega⟩
  have hInR : InR l W1 ((V pre ++ NB x y).map (·.1)) := ⟨hrec, fun hc => by
    obtain ⟨o, ho⟩ := Ad2.1 hc
    rcases List.mem_append.1 ho with ho | ho
    · have := hVlt l o ho; omega
    · obtain ⟨q, hq⟩ := hrec
      have h1 := (hh.held l o ho).2
      rw [hq] at h1
      cases h1
      have := H.cellsN x y l _ ho
      cases this⟩
  have hAp : ∀ b, (∃ o, (b, o) ∈ chg ++ n0) ∨ b < W.heap.size → b ∉ (V pre ++ NB x y).map (·.1) := fun b hb hc => by
    obtain ⟨o, ho⟩ := Ad2.1 hc
    have hnd := hI.1.once
    rcases List.mem_append.1 ho with ho | ho
    · rcases hb with ⟨o2, hb⟩ | hb
      · rw [List.map_append, List.map_append, List.nodup_append] at hnd
        rcases List.mem_append.1 hb with hb | hb
        · exact hnd.2.2 b (Ad2.2 ⟨o2, hb⟩) b (List.mem_append.2 (.inl (Ad2.2 ⟨o, ho⟩))) rfl
        · exact (List.nodup_append.1 hnd.2.1).2.2 b (Ad2.2 ⟨o, ho⟩) b (Ad2.2 ⟨o2, hb⟩) rfl
      · have := (hI.1.newd b o (List.mem_append.2 (.inl ho))).1
        omega
    · have h1 := (hh.held b o ho).1
      rcases hb with ⟨o2, hb⟩ | hb
      · have : b < w.heap.size := by
          rcases List.mem_append.1 hb with hb | hb
          · exact hlt b o2 (List.mem_append.2 (.inl hb))
          · exact hlt b o2 (List.mem_append.2 (.inr (List.mem_append.2 (.inr hb))))
        omega
      · have := s.mem.size
        omega
  have hr := H.body l pre x y W1 hlen hiv hI.1 hInR hAp a' W1 ⟨hh.size, hh.agree, hh.defers, hst⟩
  show body.wpIn (Fr (some l)) 7 P _ a' W1
  have hBout : ∀ (B : Blks), B.map (·.1) = (NB x y).map (·.1) → ∀ b ∈ B.map (·.1), W.heap.size ≤ b ∧ ∀ o, (b, o) ∉ chg ++ (V pre ++ n0) := fun B hb b hbm => by
    obtain ⟨o, ho⟩ := Ad2.1 hbm
    have h1 := (hB' B hb b o ho).1
    exact ⟨Nat.le_trans s.mem.size h1, fun o2 h2 => by have := hlt b o2 h2; omega⟩
  have hkf : ∀ (V' B : Blks) (w2 : World), V'.map (·.1) = (V []).map (·.1) → B.map (·.1) = (NB x y).map (·.1) → Mem W1 (V' ++ B) [] w2 → KeepsFrom w.heap.size W1 w2 := fun V' B w2 hv hb hm =>
    AD7 hm (fun b o ho => by
      rcases List.mem_append.1 ho with ho | ho
      · exact .inl (hV' V' hv b o ho)
      · exact .inr (hB' B hb b o ho).2)
  refine Go.wpIn_mono (Aq4 hr) ?_
  intro e a2 w2 hq
  cases e with
  | normal =>
    obtain ⟨hiv2, B, hb, hm⟩ := hq
    refine ⟨hkf _ B w2 (H.names _) hb hm, fun k hk hne => hm.old k (Nat.lt_of_lt_of_le hk hI.2) (fun o ho => ?_), ⟨hI.1.roundN hm (by rw [H.names, H.names pre]) (hBout B hb), Nat.le_trans hI.2 hm.size⟩, hiv2⟩
    rcases List.mem_append.1 ho with ho | ho
    · exact hne (by rw [← H.names (pre ++ [x])]; exact Ad2.2 ⟨o, ho⟩)
    · have := (hB' B hb k o ho).1; omega
  | exit id =>
    obtain ⟨V', B, hv, hb, hst2, hm⟩ := hq
    exact ⟨hkf V' B w2 hv hb hm, V', hv, hst2, hI.1.roundN hm (by rw [hv, H.names pre]) (hBout B hb), Nat.le_trans hI.2 hm.size⟩
  | ret =>
    obtain ⟨V', B, hv, hb, hst2, hm⟩ := hq
    exact ⟨hkf V' B w2 hv hb hm, V', hv, hst2, hI.1.roundN hm (by rw [hv, H.names pre]) (hBout B hb), Nat.le_trans hI.2 hm.size⟩
  | goto l => exact hq.elim
  | panic c => exact hq.elim
  | outgrown => exact hq.elim
theorem By4 {B : Nat} {nm : List Nat} {A C D : World} (h1 : KpX B nm A C) (h2 : KpX B nm C D) : KpX B nm A D := fun k hk hne => (h2 k hk hne).trans (h1 k hk hne)
theorem BT5 {B : Nat} {nm : List Nat} (A : World) (l : Nat) (o' : Obj) (h : B ≤ l) : KpX B nm A (A.putObj l o') := fun k hk _ => World.putObj_heap_other (by omega)
/-- 'for x := range seq', of a function's own code. -/
theorem Bd0 {g : Operand} {gf : Nat} {lb : Array Value} {S Sp : List α → Prop} (H : RangeOk P n N r W chg n0 ps assign body enc V RY NB Stp Iv)
    (hg : rev r g = some (.func (.func gf) #[] lb)) (he : Enters P gf) (hn : Pick (V [] ++ n0) news)
    (hseq : ∀ w, Mem W chg (V [] ++ n0) w → SeqStopsK (Fr none) 8 P gf lb (fun x => (enc x).toArray) (KpX w.heap.size ((V []).map (·.1))) S Sp N w)
    (h : ∀ xs D, S xs → Iv xs → RunE Q n .normal r ({ target := .collected D, args := #[] } :: ds) W chg ((D, .deferred (some [])) :: (V xs ++ n0)))
    (h2 : ∀ c pre V' D, Sp pre → V'.map (·.1) = (V []).map (·.1) → Stp c pre V' → RunC P Q n c r ({ target := .collected D, args := #[] } :: ds) W chg ((D, .deferred (some [])) :: (V' ++ n0))) :
    RunC P Q n (.rangeFunc g ps.toArray assign body) r ds W chg news := fun a w s => by
  have s' : St n r ds W chg (V [] ++ n0) a w := ⟨s.size, s.agree, s.defers, s.mem.pick hn⟩
  have mark : ∀ (V' : Blks) (D : Nat) (W' : World), V'.map (·.1) = (V []).map (·.1) → w.heap.size ≤ D → Mem W chg (V' ++ n0) W' → W'.heap[D]? = some (.deferred (some [])) → Mem W chg ((D, .deferred (some [])) :: (V' ++ n0)) W' := fun V' D W' hv hD hI hK => by
    have hlt : ∀ b o, (b, o) ∈ chg ++ (V' ++ n0) → b < w.heap.size := fun b o hb => by
      rcases List.mem_append.1 hb with hb | hb
      · exact H.lt s'.mem [] b o (List.mem_append.2 (.inl hb))
      · rcases List.mem_append.1 hb with hb | hb
        · have : b ∈ V'.map (·.1) := Ad2.2 ⟨o, hb⟩
          rw [hv] at this
          obtain ⟨o2, h2⟩ := Ad2.1 this
          exact H.lt s'.mem [] b o2 (List.mem_append.2 (.inr (List.mem_append.2 (.inl h2))))
        · exact H.lt s'.mem [] b o (List.mem_append.2 (.inr (List.mem_append.2 (.inr hb))))
    refine { hI with newd := fun b o hb => ?_, once := ?_ }
    · rcases List.mem_cons.1 hb with hb | hb
      · cases hb; exact ⟨Nat.le_trans s'.mem.size hD, hK⟩
      · exact hI.newd b o hb
    · have hnd := hI.once
      rw [List.map_append, List.nodup_append] at hnd ⊢
      refine ⟨hnd.1, ?_, ?_⟩
      · rw [List.map_cons, List.nodup_cons]
        refine ⟨fun hm => ?_, hnd.2.1⟩
        obtain ⟨o, ho⟩ := Ad2.1 hm
        have := hlt D o (List.mem_append.2 (.inr ho))
        omega
      · intro b hb c hc
        rw [List.map_cons, List.mem_cons] at hc
        rcases hc with rfl | hc
        · obtain ⟨o, ho⟩ := Ad2.1 hb
          have := hlt b o (List.mem_append.2 (.inl ho))
          intro e; subst e; omega
        · exact hnd.2.2 b hb c hc
  refine (wpIn_wide (n := 9)).1 ?_
  show Code.wpIn (Fr none) 9 P _ Q a w
  exact wpIn_rangeFunc_ownH (F := Fr none) (n := 9) rfl (by decide) (s.agree.eval hg) trivial he (hseq w s'.mem) By4 (fun A l o o' hl _ _ _ => BT5 A l o' hl) (Below.refl _ w) (fun x => by simp [H.lens x])
    (RJ W chg n0 V Iv w.heap.size) (RIx W chg n0 ((V []).map (fun x : Nat × Obj => x.1)) Stp w.heap.size) (H.ownJ s'.mem) (H.ownX s'.mem) ⟨⟨s'.mem, Nat.le_refl _⟩, H.iv0⟩ (fun x a' W' => ∃ y, Held n w.heap.size (RY x y) (NB x y) a' W') (fun x a' => H.ownA x a')
    (fun l pre x W1 K hI hK => H.asgW s' l pre x W1 K hI.1 (fun a' W' h1 h2 h3 h4 => hK a' W' h1 h2 ⟨h3, hI.2⟩ h4)) (fun l pre x a' W1 hl hrec hI hA hlen => H.round s' l pre x a' W1 hl hrec hI.1 hA hlen hI.2)
    (fun D xs W' hD hS hI hK => h xs D hS hI.2 _ W' ⟨s.size, s.agree, by rw [← s.defers], mark _ D W' (H.names xs) hD hI.1.1 hK⟩)
    (fun D c pre W' hD hSp hI hK => by
      obtain ⟨V', hv, hst, hm, _⟩ := hI
      exact (wpIn_wide (n := 9)).2 (h2 c pre V' D hSp hv hst _ W' ⟨s.size, s.agree, by rw [← s.defers], mark V' D W' hv hD hm hK⟩))
/-- A range over a function, of a function's own code: the blocks V turn from round to round; the variables of a round are registers, or lie in blocks NB. -/
theorem Bh7 {α Y : Type} {g : Operand} {gf : Nat} {lb : Array Value} {S Sp : List α → Prop} {ps : List Nat} {assign body : Code} {q : Regs} {N : Nat} (n0 : Blks) (enc : α → List Value) (V : List α → Blks) (RY : α → Y → Regs → Regs) (NB : α → Y → Blks) (Stp : Code → List α → Blks → Prop)
    (_hs : Sub q r) (hn : Pick (V [] ++ n0) news) (hnm : ∀ pre, (V pre).map (·.1) = (V []).map (·.1)) (_hcl : ∀ pre b o, (b, o) ∈ V pre → o.isCells = true) (hcn : ∀ x y b o, (b, o) ∈ NB x y → o.isCells = true)
    (hlen : ∀ x, (enc x).length = ps.length) (hin : (ps.all fun p => Nat.ble (p + 1) n) = true) (hg : rev r g = some (.func (.func gf) #[] lb)) (he : Enters P gf)
    (hseq : ∀ w, Mem W chg (V [] ++ n0) w → SeqStopsK (Fr none) 8 P gf lb (fun x => (enc x).toArray) (KpX w.heap.size ((V []).map (·.1))) S Sp N w)
    (hasg : ∀ l pre x W1, Mem W chg (V pre ++ n0) W1 → RunCR (some l) P (AsgQ n W1 (V pre) (fun y => RY x y q) (NB x)) n assign (putsR ps (enc x) r) [] W1 (V pre) [])
    (hbody : ∀ l pre x y W1, pre.length < N → Mem W chg (V pre ++ n0) W1 → InR l W1 ((V pre ++ NB x y).map (·.1)) → (∀ b, (∃ o, (b, o) ∈ chg ++ n0) ∨ b < W.heap.size → b ∉ (V pre ++ NB x y).map (·.1)) →
      RunCR (some l) P (BodyX W1 ((V []).map (·.1)) ((NB x y).map (·.1)) (V (pre ++ [x])) (fun c V' => Stp c (pre ++ [x]) V')) n body (RY x y q) [] W1 (V pre ++ NB x y) [])
    (h : ∀ xs D, S xs → RunE Q n .normal r ({ target := .collected D, args := #[] } :: ds) W chg ((D, .deferred (some [])) :: (V xs ++ n0)))
    (h2 : ∀ c pre V' D, Sp pre → V'.map (·.1) = (V []).map (·.1) → Stp c pre V' → RunC P Q n c r ({ target := .collected D, args := #[] } :: ds) W chg ((D, .deferred (some [])) :: (V' ++ n0))) :
    RunC P Q n (.rangeFunc g ps.toArray assign body) r ds W chg news :=
  Bd0 (RY := fun x y => RY x y q) (Iv := fun _ => True) ⟨trivial, hnm, hcn, hlen, fun p hp => Nat.le_of_ble_eq_true (List.all_eq_true.1 hin p hp), hasg, fun l pre x y W1 h1 _ h2 h3 h4 => (hbody l pre x y W1 h1 h2 h3 h4).bodyT⟩ hg he hn hseq (fun xs D hS _ => h xs D hS) h2
/-- What lay before a loop lies in its rounds. -/
theorem Mem.flat {w W1 : World} {n1 c1 nw : Blks} (hI : Mem W [] n1 W1) (hm : Mem W1 c1 nw w) (hc : ∀ b, b < W.heap.size → b ∉ c1.map (·.1)) : Mem W [] [] w :=
  ⟨hm.os.trans hI.os, hm.tape.trans hI.tape, hm.output.trans hI.output, Nat.le_trans hI.size hm.size, fun k hk _ => (hm.old k (Nat.lt_of_lt_of_le hk hI.size) (fun o ho => hc k hk (Ad2.2 ⟨o, ho⟩))).trans (hI.old k hk (by simp)), fun _ _ h => (by cases h), fun _ _ h => (by cases h), by simp⟩

/-! ### Leaving a function that holds loops -/
def markD (D : Nat) : Deferred := { target := .collected D, args := #[] }
def markB (D : Nat) : Nat × Obj := (D, .deferred (some []))
theorem AD6 {fn : Func} {R : Ending → World → Prop} {tl : List Deferred} {t : Array Value} {news2 : Blks} (hend : ∀ w, Mem W chg news2 w → LeavesInM Fence.wide 9 P fn t R tl .returning w) : ∀ (Ds : List Nat) (w : World), Mem W chg (Ds.map markB ++ news2) w → LeavesInM Fence.wide 9 P fn t R (Ds.map markD ++ tl) .returning w
  | [], w, hm => hend w hm
  | D :: Ds, w, hm => ⟨by simp, .inl ⟨D, _, rfl, run_takeDeferred (hm.newd D _ (List.mem_cons_self ..)).2, AD6 hend Ds _ (hm.putNew _)⟩⟩
theorem Bq5 {fn : Func} {R : Ending → World → Prop} {news2 : Blks} {v : Value} {a : Act} (hag : Agree a r) (hv : ResVs P r (chg ++ news2) fn v) (hR : ∀ w, Mem W chg news2 w → R (.returned v) w) : ∀ w, Mem W chg news2 w → LeavesInM Fence.wide 9 P fn a.tmps R [] .returning w := fun w hm =>
  ⟨v, hv.run hag (fun _ _ h => hm.at h), hR w hm⟩
/-- Leaving with marks, and nothing else. -/
theorem AN9 {fn : Func} {R : Ending → World → Prop} {v : Value} {news2 : Blks} (Ds : List Nat) (hp : Pick (Ds.map markB ++ news2) news) (hv : ResVs P r (chg ++ news2) fn v) (hR : ∀ w, Mem W chg news2 w → R (.returned v) w) :
    RunE (bodyPostM Fence.wide 9 P fn R) n .ret r (Ds.map markD ++ []) W chg news := fun a w s => by
  show LeavesInM _ _ _ _ _ _ a.defers _ w
  rw [s.defers]
  exact AD6 (Bq5 s.agree hv hR) Ds w (s.mem.pick hp)
theorem AT2 {v v0 : Value} (h : v = v0) {news2 : Blks} : ∀ w, Mem W [] news2 w → Pure v0 W (.returned v) w := fun _ hm => ⟨by rw [h], hm.drop⟩
end
end Go.Eng
/- The engine: structs and arrays of numbers and truth values, compared. No program is in sight. -/
namespace Go.Eng
open Go Go.RowKit
/-- Fields that are compared by g. -/
def eqFs (P : Program) (g : TypeId → List Value → List Value → Option Bool) (cs es : List Value) : List Field → Option Bool
  | [] => some true
  | f :: fs => if f.name = "_" then none else
    match g f.type ((cs.drop f.offset).take (P.cellsOf f.type)) ((es.drop f.offset).take (P.cellsOf f.type)), eqFs P g cs es fs with
    | some a, some b => some (a && b)
    | _, _ => none
def eqIs (P : Program) (g : TypeId → List Value → List Value → Option Bool) (e : TypeId) (cs es : List Value) : List Nat → Option Bool
  | [] => some true
  | i :: is => match g e ((cs.drop (i * P.cellsOf e)).take (P.cellsOf e)) ((es.drop (i * P.cellsOf e)).take (P.cellsOf e)), eqIs P g e cs es is with
    | some a, some b => some (a && b)
    | _, _ => none
/-- Are values of a type, cell by cell, the same? -/
def eqF (P : Program) : Nat → TypeId → List Value → List Value → Option Bool
  | 0, _, _, _ => none
  | m + 1, t, cs, es => match P.underlying t with
    | some (.int _) => match cs, es with
      | [.int k a], [.int k' b] => if k = k' then some (decide (a = b)) else none
      | _, _ => none
    | some .bool => match cs, es with
      | [.bool a], [.bool b] => some (a == b)
      | _, _ => none
    | some .string => match cs, es with
      | [.string a], [.string b] => some (a.toList == b.toList)
      | _, _ => none
    | some (.struct fs) => if P.stoodInHeld t = false ∧ cs.length = P.cellsOf t ∧ es.length = P.cellsOf t then eqFs P (eqF P m) cs es fs.toList else none
    | some (.array n e) => if n ≠ 0 ∧ cs.length = P.cellsOf t ∧ es.length = P.cellsOf t then eqIs P (eqF P m) e cs es (List.range n) else none
    | _ => none
def valOf (P : Program) (t : TypeId) (cs : List Value) : Value := match P.underlying t with
  | some (.struct _) => .agg cs.toArray
  | some (.array _ _) => .agg cs.toArray
  | _ => cs.headD undef
section
variable {P : Program}
theorem Be5 {m off : Nat} {t : TypeId} {xs es : List Value} {w : World} {b : Bool} (h : eqF P m t ((xs.drop off).take (P.cellsOf t)) es = some b) : (part t xs.toArray off).run P w = .ok (valOf P t ((xs.drop off).take (P.cellsOf t))) w := by
  cases m with
  | zero => cases h
  | succ m =>
    unfold eqF at h
    cases hu : P.underlying t with
    | none => simp [hu] at h
    | some d =>
      rw [hu] at h
      have plain : ∀ v, (xs.drop off).take (P.cellsOf t) = [v] → xs[off]? = some v := fun v hv => by
        have h1 : ((xs.drop off).take (P.cellsOf t))[0]? = some v := by rw [hv]; rfl
        rw [List.getElem?_take] at h1
        split at h1
        · simpa using h1
        · cases h1
      have agg : isAggD d = true → (part t xs.toArray off).run P w = .ok (.agg ((xs.drop off).take (P.cellsOf t)).toArray) w := fun ha => by
        obtain ⟨i, hi⟩ := info_of_underlying hu
        have hc : P.cellsOf t = i.size := by simp [Program.cellsOf, hi]
        have e : xs.toArray.extract off (off + i.size) = ((xs.drop off).take (P.cellsOf t)).toArray := by
          rw [hc]
          simp
        cases d <;> simp [isAggD] at ha <;> simp [part, isAgg, run_underlying hu, sizeOf, typeInfo, hi, ← e]
      unfold valOf
      rw [hu]
      cases d with
      | int k =>
        simp only at h ⊢
        split at h
        · rename_i a _ _ hv
          rw [hv]
          exact Ap3 hu rfl (by simpa using plain _ hv)
        · cases h
      | bool =>
        simp only at h ⊢
        split at h
        · rename_i a _ hv
          rw [hv]
          exact Ap3 hu rfl (by simpa using plain _ hv)
        · cases h
      | string =>
        simp only at h ⊢
        split at h
        · rename_i a _ hv
          rw [hv]
          exact Ap3 hu rfl (by simpa using plain _ hv)
        · cases h
      | struct fs => exact agg rfl
      | array n e => exact agg rfl
      | _ => simp at h
theorem Bj7 {m off : Nat} {t : TypeId} {xs cs : List Value} {w : World} {b : Bool} (h : eqF P m t cs ((xs.drop off).take (P.cellsOf t)) = some b) : (part t xs.toArray off).run P w = .ok (valOf P t ((xs.drop off).take (P.cellsOf t))) w := by
  have h2 : ∃ b, eqF P m t ((xs.drop off).take (P.cellsOf t)) ((xs.drop off).take (P.cellsOf t)) = some b := by
    have sym : ∀ (m : Nat) (t : TypeId) (cs es : List Value) (b : Bool), eqF P m t cs es = some b → ∃ b, eqF P m t es es = some b := by
      intro m
      induction m with
      | zero => intro t cs es b h; cases h
      | succ m ih =>
        intro t cs es b h
        unfold eqF at h ⊢
        split at h
        · split at h
          · split at h
            · rename_i hk; subst hk; exact ⟨_, by simp; rfl⟩
            · cases h
          · cases h
        · split at h
          · exact ⟨_, by simp; rfl⟩
          · cases h
        · split at h
          · exact ⟨_, by simp; rfl⟩
          · cases h
        · rename_i fs _
          split at h
          · rename_i hc
            rw [if_pos ⟨hc.1, hc.2.2, hc.2.2⟩]
            generalize fs.toList = l at h
            induction l generalizing b with
            | nil => exact ⟨true, rfl⟩
            | cons f l ihl =>
              unfold eqFs at h ⊢
              split at h
              · cases h
              · rename_i hn
                rw [if_neg hn]
                split at h
                · rename_i a b' h1 h2
                  obtain ⟨u, hu⟩ := ih _ _ _ _ h1
                  obtain ⟨v, hv⟩ := ihl _ h2
                  rw [hu, hv]; exact ⟨_, rfl⟩
                · cases h
          · cases h
        · rename_i n e _
          split at h
          · rename_i hc
            rw [if_pos ⟨hc.1, hc.2.2, hc.2.2⟩]
            generalize List.range n = l at h
            induction l generalizing b with
            | nil => exact ⟨true, rfl⟩
            | cons i l ihl =>
              unfold eqIs at h ⊢
              split at h
              · rename_i a b' h1 h2
                obtain ⟨u, hu⟩ := ih _ _ _ _ h1
                obtain ⟨v, hv⟩ := ihl _ h2
                rw [hu, hv]; exact ⟨_, rfl⟩
              · cases h
          · cases h
        · cases h
    exact sym _ _ _ _ _ h
  obtain ⟨b2, h2⟩ := h2
  exact Be5 h2
theorem Be2 (d : Nat) : ∀ (m : Nat) (t : TypeId) (cs es : List Value) (b : Bool) (w : World), eqF P m t cs es = some b → (Op.equalIn (d + m) t (valOf P t cs) (valOf P t es)).run P w = .ok b w := by
  intro m
  induction m with
  | zero => intro t cs es b w h; cases h
  | succ m ih =>
    intro t cs es b w h
    unfold eqF at h
    unfold valOf
    rw [show d + (m + 1) = (d + m) + 1 from rfl]
    cases hu : P.underlying t with
    | none => simp [hu] at h
    | some dd =>
      rw [hu] at h
      cases dd with
      | int k =>
        simp only at h ⊢
        split at h
        · split at h
          · rename_i hk
            cases h
            subst hk
            rw [List.headD_cons, List.headD_cons, At9 hu]
            rfl
          · cases h
        · cases h
      | bool =>
        simp only at h ⊢
        split at h
        · cases h
          rw [List.headD_cons, List.headD_cons, run_equalIn_bool w _ _ _ _ hu]
        · cases h
      | string =>
        simp only at h ⊢
        split at h
        · cases h
          rw [List.headD_cons, List.headD_cons, run_equalIn_string w _ _ _ _ hu]
        · cases h
      | struct fs =>
        simp only at h ⊢
        split at h
        · rename_i hc
          have hfs : P.fieldsOf t = fs := by simp [Program.fieldsOf, hu]
          rw [run_equalIn_struct w (d + m) t _ _ (by rw [hfs]; exact hu) hc.1, hfs]
          generalize fs.toList = l at h
          induction l generalizing b with
          | nil => cases h; simp [Op.eqFields]
          | cons f l ihl =>
            unfold eqFs at h
            split at h
            · cases h
            · rename_i hn
              split at h
              · rename_i a b' h1 h2
                cases h
                unfold Op.eqFields
                rw [if_pos hn]
                simp only [Sem.run_bind, Be5 h1, Bj7 h1, Result.andThen_ok, ih _ _ _ _ w h1]
                cases a with
                | true => simpa using ihl _ h2
                | false => simp
              · cases h
        · cases h
      | array n e =>
        simp only at h ⊢
        split at h
        · rename_i hc
          have hn := hc.1
          have hie : ∃ i, P.info? e = some i := by
            have h0 : List.range n = 0 :: (List.range' 1 (n - 1)) := by
              rw [List.range_eq_range']
              cases n with
              | zero => exact absurd rfl hn
              | succ n => simp [List.range'_succ]
            rw [h0] at h
            unfold eqIs at h
            split at h
            · rename_i a b' h1 h2
              cases m with
              | zero => cases h1
              | succ m =>
                unfold eqF at h1
                cases hue : P.underlying e with
                | none => simp [hue] at h1
                | some _ => exact info_of_underlying hue
            · cases h
          obtain ⟨i, hi⟩ := hie
          rw [run_equalIn_array w (d + m) _ _ hu hi]
          generalize List.range n = l at h
          induction l generalizing b with
          | nil => cases h; simp [Op.eqItems]
          | cons j l ihl =>
            unfold eqIs at h
            split at h
            · rename_i a b' h1 h2
              cases h
              unfold Op.eqItems
              simp only [Sem.run_bind, Be5 h1, Bj7 h1, Result.andThen_ok, ih _ _ _ _ w h1]
              cases a with
              | true => simpa using ihl _ h2
              | false => simp
            · cases h
        · cases h
      | _ => simp at h
end
section
variable {P : Program} {ops : Array Oper} {Q : Exit → Act → World → Prop} {n : Nat} {r : Regs} {ds : List Deferred} {W : World} {chg news : Blks} {rest : List Oper}
variable {d : Nat} {ty : TypeId} {pos : String} {after : Array Edge} {dst : Option Tmp} {gd : Option (Nat × Bool)}
/-- A type of structs or arrays that is compared without a guard. -/
def aggB (P : Program) (T : TypeId) : Bool := !P.eqGuardType P.depth T && match P.underlying T with | some (.struct _) => true | some (.array _ _) => true | _ => false
theorem An6 {T : TypeId} (h : aggB P T = true) (cs : List Value) : P.eqGuardType P.depth T = false ∧ valOf P T cs = .agg cs.toArray := by
  simp only [aggB, Bool.and_eq_true, Bool.not_eq_true'] at h
  refine ⟨h.1, ?_⟩
  have h2 := h.2
  unfold valOf
  split at h2 <;> simp_all
theorem Bc2 {x y : Operand} {T yt : TypeId} {cs es : List Value} {b : Bool} (hx : rev r x = some (.agg cs.toArray)) (hy : rev r y = some (.agg es.toArray)) (h : aggB P T = true) (he : eqF P 8 T cs es = some b) :
    Val P r W chg news { dst, op := .binOp .eql T x y yt, type := ty, pos, after, guard := gd } (.bool b) :=
  ⟨fun ac w ha _ => by
    have h1 := Be2 9992 8 T cs es b w he
    rw [(An6 h cs).2, (An6 h es).2] at h1
    have h2 : (Op.equal T (.agg cs.toArray) (.agg es.toArray)).run P w = .ok b w := h1
    simp [execOp, ha.eval hx, ha.eval hy, eqGuard, (An6 h cs).1, binOp, h2]⟩
theorem Bc0 {x y : Operand} {T yt : TypeId} {cs es : List Value} {b : Bool} (hx : rev r x = some (.agg cs.toArray)) (hy : rev r y = some (.agg es.toArray)) (h : aggB P T = true) (he : eqF P 8 T cs es = some b) :
    Val P r W chg news { dst, op := .binOp .neq T x y yt, type := ty, pos, after, guard := gd } (.bool (!b)) :=
  ⟨fun ac w ha _ => by
    have h1 := Be2 9992 8 T cs es b w he
    rw [(An6 h cs).2, (An6 h es).2] at h1
    have h2 : (Op.equal T (.agg cs.toArray) (.agg es.toArray)).run P w = .ok b w := h1
    simp [execOp, ha.eval hx, ha.eval hy, eqGuard, (An6 h cs).1, binOp, h2]⟩
end
end Go.Eng
/- The engine: maps whose keys are numbers, and loops over them. No program is in sight. -/
namespace Go.Eng
open Go Go.RowKit
/-- The entries of a map whose keys are numbers, in the order in which they came. -/
def mEntsF : Nat → List (Int × Value) → List MapEntry
  | _, [] => []
  | i, x :: l => { key := .int .i64 x.1, val := x.2, born := i } :: mEntsF (i + 1) l
def mapO (l : List (Int × Value)) : Obj := .map (mEntsF 0 l).toArray l.length
def mIdx : List (Int × Value) → Int → Option (Nat × Value)
  | [], _ => none
  | x :: l, a => if x.1 = a then some (0, x.2) else (mIdx l a).map fun p => (p.1 + 1, p.2)
def mFind (l : List (Int × Value)) (a : Int) : Option Value := (mIdx l a).map (·.2)
theorem Ba5 : ∀ (l : List (Int × Value)) (i : Nat) (x : Int × Value), mEntsF i (l ++ [x]) = mEntsF i l ++ [{ key := .int .i64 x.1, val := x.2, born := i + l.length }]
  | [], i, x => by simp [mEntsF]
  | y :: l, i, x => by
    simp only [List.cons_append, mEntsF, Ba5 l (i + 1) x, List.length_cons]
    rw [show i + 1 + l.length = i + (l.length + 1) by omega]
theorem AU2 {e : MapEntry} : ∀ (l : List (Int × Value)) (i : Nat), e ∈ mEntsF i l → ∃ j, ∃ h : j < l.length, e = { key := .int .i64 l[j].1, val := l[j].2, born := i + j }
  | [], i, h => by cases h
  | x :: l, i, h => by
    simp only [mEntsF, List.mem_cons] at h
    rcases h with rfl | h
    · exact ⟨0, by simp, by simp⟩
    · obtain ⟨j, hj, rfl⟩ := AU2 l (i + 1) h
      exact ⟨j + 1, by simp only [List.length_cons]; omega, by simp only [List.getElem_cons_succ]; rw [show i + 1 + j = i + (j + 1) by omega]⟩
theorem BA9 : ∀ (l : List (Int × Value)) (i j : Nat) (h : j < l.length), ({ key := .int .i64 l[j].1, val := l[j].2, born := i + j } : MapEntry) ∈ mEntsF i l
  | x :: l, i, 0, _ => by simp [mEntsF]
  | x :: l, i, j + 1, h => by
    have := BA9 l (i + 1) j (by simpa using h)
    simp only [mEntsF, List.mem_cons, List.getElem_cons_succ]
    right
    rw [show i + (j + 1) = i + 1 + j by omega]
    exact this
theorem Ar1 (q : IntKind) (a : Int) : ∀ (l : List (Int × Value)) (i j : Nat), Instr.findNow (.int q) (.int .i64 a) (mEntsF i l) j = some ((mIdx l a).map fun p => (j + p.1, p.2))
  | [], _, _ => rfl
  | x :: l, i, j => by
    unfold mEntsF Instr.findNow mIdx
    by_cases h : x.1 = a
    · subst h; simp [Instr.sameNow]
    · have h2 : (a == x.1) = false := by simp; exact fun e => h e.symm
      simp only [Instr.sameNow, if_true, h2, h, if_false]
      rw [Ar1 q a l (i + 1) (j + 1)]
      cases mIdx l a with
      | none => rfl
      | some p => simp; omega
/-- A map type whose keys are whole numbers: the type of its elements. -/
def mapB (P : Program) (T : TypeId) : Option TypeId := match P.underlying T with
  | some (.map k e) => if (P.underlying k).any isIntD then some e else none
  | _ => none
def zeroV (P : Program) (E : TypeId) : Option Value := (P.info? E).bind (·.zero)
theorem AD2 {P : Program} {T E : TypeId} (h : mapB P T = some E) : ∃ k q, P.underlying T = some (.map k E) ∧ P.underlying k = some (.int q) := by
  unfold mapB at h
  split at h
  · rename_i k e hu
    split at h
    · rename_i hk
      obtain ⟨q, hq⟩ := AN2 hk
      cases h
      exact ⟨k, q, hu, hq⟩
    · cases h
  · cases h
section
variable {P : Program} {ops : Array Oper} {Q : Exit → Act → World → Prop} {n : Nat} {r : Regs} {ds : List Deferred} {W : World} {chg news : Blks} {rest : List Oper}
variable {d : Nat} {ty : TypeId} {pos : String} {after : Array Edge} {dst : Option Tmp} {gd : Option (Nat × Bool)}
theorem Az9 {w : World} {T E : TypeId} {b : Nat} {l : List (Int × Value)} {a : Int} {z : Value} {ok : Bool} (hb : w.heap[b]? = some (mapO l)) (hT : mapB P T = some E) (hz : zeroV P E = some z) :
    (Instr.lookup T (.map (some b)) (.int .i64 a) ok).run P w = .ok (if ok then .tuple #[(mFind l a).getD z, .bool (mFind l a).isSome] else (mFind l a).getD z) w := by
  obtain ⟨k, q, hu, hq⟩ := AD2 hT
  have hzz : (zeroValue E).run P w = .ok z w := by
    unfold zeroV at hz
    cases hi : P.info? E with
    | none => simp [hi] at hz
    | some i =>
      simp [hi] at hz
      simp [zeroValue, typeInfo, hi, hz]
  have hf : (Instr.findKey k (.int .i64 a) (mEntsF 0 l)).run P w = .ok (mIdx l a) w := by
    have := Ar1 q a l 0 0
    refine (MapKept.run_findKey hq this).trans ?_
    cases mIdx l a <;> simp
  have hc : ∀ e, (Instr.checkKey e 10000 k (.int .i64 a)).run P w = .ok () w := fun e => by
    rw [show (10000 : Nat) = 9999 + 1 from rfl]
    unfold Instr.checkKey
    simp [run_underlying hq]
  unfold mapO at hb
  unfold mFind
  simp only [Instr.lookup, Sem.run_bind, run_underlying hu, Result.andThen_ok, MapKept.run_getObj_map hb, Sem.run_pure]
  rw [hc]
  simp only [Result.andThen_ok, hf]
  cases h : mIdx l a with
  | none => cases ok <;> simp [hzz]
  | some p => cases ok <;> simp
theorem Val.lookup {x i : Operand} {T E : TypeId} {b : Nat} {l : List (Int × Value)} {a : Int} {z : Value} (hx : rev r x = some (.map (some b))) (hi : rev r i = some (.int .i64 a)) (hb : ∀ w, Mem W chg news w → w.heap[b]? = some (mapO l)) (hT : mapB P T = some E) (hz : zeroV P E = some z) :
    Val P r W chg news { dst, op := .lookup T x i false, type := ty, pos, after, guard := gd } ((mFind l a).getD z) :=
  ⟨fun ac w ha hm => by
    have h1 := Az9 (P := P) (ok := false) (a := a) (hb w hm) hT hz
    simp at h1
    simp [execOp, ha.eval hx, ha.eval hi, h1]⟩
theorem Bc1 {x i : Operand} {T E : TypeId} {b : Nat} {l : List (Int × Value)} {a : Int} {z : Value} (hx : rev r x = some (.map (some b))) (hi : rev r i = some (.int .i64 a)) (hb : ∀ w, Mem W chg news w → w.heap[b]? = some (mapO l)) (hT : mapB P T = some E) (hz : zeroV P E = some z) :
    Val P r W chg news { dst, op := .lookup T x i true, type := ty, pos, after, guard := gd } (.tuple #[(mFind l a).getD z, .bool (mFind l a).isSome]) :=
  ⟨fun ac w ha hm => by
    have h1 := Az9 (P := P) (ok := true) (a := a) (hb w hm) hT hz
    simp at h1
    simp [execOp, ha.eval hx, ha.eval hi, h1]⟩
theorem Ap9 {x i : Operand} {T E : TypeId} {b : Nat} {l : List (Int × Value)} {a : Int} {z : Value} {o : Option Value} (hx : rev r x = some (.map (some b))) (hi : rev r i = some (.int .i64 a)) (hb : ∀ w, Mem W chg news w → w.heap[b]? = some (mapO l)) (hT : mapB P T = some E) (hz : zeroV P E = some z) (ho : mFind l a = o) :
    Val P r W chg news { dst, op := .lookup T x i false, type := ty, pos, after, guard := gd } (o.getD z) := ho ▸ Val.lookup hx hi hb hT hz
theorem Ak3 {x i : Operand} {T E : TypeId} {b : Nat} {l : List (Int × Value)} {a : Int} {z v : Value} (hx : rev r x = some (.map (some b))) (hi : rev r i = some (.int .i64 a)) (hb : ∀ w, Mem W chg news w → w.heap[b]? = some (mapO l)) (hT : mapB P T = some E) (hz : zeroV P E = some z) (ho : (mFind l a).getD z = v) :
    Val P r W chg news { dst, op := .lookup T x i false, type := ty, pos, after, guard := gd } v := ho ▸ Val.lookup hx hi hb hT hz
theorem Aj4 {x i : Operand} {T E : TypeId} {b : Nat} {l : List (Int × Value)} {a : Int} {z v : Value} (hx : rev r x = some (.map (some b))) (hi : rev r i = some (.int .i64 a)) (hb : ∀ w, Mem W chg news w → w.heap[b]? = some (mapO l)) (hT : mapB P T = some E) (hz : zeroV P E = some z) (ho : Value.tuple #[(mFind l a).getD z, .bool (mFind l a).isSome] = v) :
    Val P r W chg news { dst, op := .lookup T x i true, type := ty, pos, after, guard := gd } v := ho ▸ Bc1 hx hi hb hT hz
theorem New.makeMap {T : TypeId} : New P r W chg news { dst, op := .makeMap T none, type := ty, pos, after, guard := gd } (fun b => .map (some b)) (mapO []) :=
  ⟨fun a w _ _ => by simp [execOp, Instr.makeMap, newObj, Sem.run, mapO, mEntsF]⟩
theorem As2 {w : World} {T E : TypeId} {b : Nat} {l : List (Int × Value)} {a : Int} {v : Value} (hb : w.heap[b]? = some (mapO l)) (hT : mapB P T = some E) (hk : mIdx l a = none) :
    (Instr.mapUpdate T (.map (some b)) (.int .i64 a) v).run P w = .ok () { w with heap := w.heap.setIfInBounds b (mapO (l ++ [(a, v)])) } := by
  obtain ⟨k, q, hu, hq⟩ := AD2 hT
  have hf : (Instr.findKey k (.int .i64 a) (mEntsF 0 l)).run P w = .ok none w := by
    have := Ar1 q a l 0 0
    rw [hk] at this
    exact MapKept.run_findKey hq this
  have hc : ∀ e, (Instr.checkKey e 10000 k (.int .i64 a)).run P w = .ok () w := fun e => by
    rw [show (10000 : Nat) = 9999 + 1 from rfl]
    unfold Instr.checkKey
    simp [run_underlying hq]
  have e1 : mapO (l ++ [(a, v)]) = .map ((mEntsF 0 l).toArray.push { key := .int .i64 a, val := v, born := l.length }) (l.length + 1) := by
    unfold mapO
    rw [Ba5]
    simp
  unfold mapO at hb
  rw [e1]
  simp only [Instr.mapUpdate, Sem.run_bind, run_underlying hu, Result.andThen_ok, MapKept.run_getObj_map hb, hc, hf, MapKept.run_setObj_map _ hb]
theorem Ao8 {w : World} {b : Nat} {o o' : Obj} (hb : w.heap[b]? = some o) : ({ w with heap := w.heap.setIfInBounds b o' } : World).heap[b]? = some o' ∧ ∀ k, k ≠ b → ({ w with heap := w.heap.setIfInBounds b o' } : World).heap[k]? = w.heap[k]? := by
  have hlt := (Array.getElem?_eq_some_iff.1 hb).1
  refine ⟨by simp [hlt], fun k hk => ?_⟩
  show (w.heap.setIfInBounds b o')[k]? = _
  rw [Array.getElem?_setIfInBounds, if_neg (fun e => hk e.symm)]
theorem Bs0 {x i y : Operand} {T E : TypeId} {b : Nat} {l : List (Int × Value)} {a : Int} {v : Value} {news' : Blks} (hx : rev r x = some (.map (some b))) (hi : rev r i = some (.int .i64 a)) (hy : rev r y = some v) (hu : Upd news b (mapO l) (mapO (l ++ [(a, v)])) news') (hT : mapB P T = some E) (hk : mIdx l a = none) :
    Sto P r W chg news { dst, op := .mapUpdate T x i y, type := ty, pos, after, guard := gd } chg news' :=
  ⟨fun ac w ha hm => by
    have hb := (hm.newd _ _ hu.mem).2
    obtain ⟨s1, s2⟩ := Ao8 (o' := mapO (l ++ [(a, v)])) hb
    refine ⟨{ w with heap := w.heap.setIfInBounds b (mapO (l ++ [(a, v)])) }, by simp [execOp, ha.eval hx, ha.eval hi, ha.eval hy, As2 hb hT hk], hm.upd_new hu rfl rfl rfl (by simp) (fun k _ hk => s2 k hk) s1⟩⟩
/-- What a loop over a map has of it: the entries that have come, in whatever order. -/
def itO (m : Nat) (l : List (Int × Value)) (x : List Nat) : Obj := .mapIter (some m) l.length x.toArray l.length
theorem New.range {x : Operand} {T E : TypeId} {m : Nat} {l : List (Int × Value)} (hx : rev r x = some (.map (some m))) (hb : ∀ w, Mem W chg news w → w.heap[m]? = some (mapO l)) (hT : mapB P T = some E) :
    New P r W chg news { dst, op := .range T x, type := ty, pos, after, guard := gd } (fun b => .pointer (some ⟨b, 0, none⟩)) (itO m l []) :=
  ⟨fun a w ha hm => by
    obtain ⟨k, q, hu, hq⟩ := AD2 hT
    have hb' : w.heap[m]? = some (.map (mEntsF 0 l).toArray l.length) := hb w hm
    simp [execOp, ha.eval hx, Instr.range, run_underlying hu, MapKept.run_getObj_map hb', newObj, Sem.run, itO]⟩
theorem RunL.next {it : Operand} {rb m : Nat} {l : List (Int × Value)} {x : List Nat} {news' : Nat → Blks} (hx : rev r it = some (.pointer (some ⟨rb, 0, none⟩))) (hm0 : ∀ w, Mem W chg news w → w.heap[m]? = some (mapO l)) (hu : ∀ i, Upd news rb (itO m l x) (itO m l (x ++ [i])) (news' i)) (hn : Nat.ble (d + 1) n = true)
    (h1 : ∀ i (hi : i < l.length), i ∉ x → RunL P ops Q n rest ((d, .tuple #[.bool true, .int .i64 l[i].1, l[i].2]) :: r) ds W chg (news' i))
    (h2 : (∀ i, i < l.length → i ∈ x) → RunL P ops Q n rest ((d, .tuple #[.bool false]) :: r) ds W chg news) :
    RunL P ops Q n ({ dst := some d, op := .next it false, type := ty, pos, after, guard := none } :: rest) r ds W chg news := fun a w s =>
  wpList_plain rfl fun K hK => by
    have hr : w.heap[rb]? = some (.mapIter (some m) l.length x.toArray l.length) := (s.mem.newd _ _ (hu 0).mem).2
    have hb : w.heap[m]? = some (.map (mEntsF 0 l).toArray l.length) := hm0 w s.mem
    have hev := s.agree.eval hx
    have hlt : ∀ e ∈ (mEntsF 0 l).toArray.toList, e.born < l.length := fun e he => by
      obtain ⟨j, hj, rfl⟩ := AU2 l 0 (by simpa using he)
      simpa using hj
    unfold Oper.wp
    rcases run_next_at (P := P) w ty rb m l.length l.length x.toArray (mEntsF 0 l).toArray l.length hr hb hlt (Nat.le_refl _) with ⟨h0, hrun⟩ | ⟨e, he, w1, hw1, hrun⟩
    · simp [execOp, hev, hrun]
      refine hK _ _ (h2 (fun i hi => ?_) _ _ (s.put (Nat.le_of_ble_eq_true hn) _))
      by_cases hc : i ∈ x
      · exact hc
      · exfalso
        have hin : ({ key := .int .i64 l[i].1, val := l[i].2, born := 0 + i } : MapEntry) ∈ leftOf (mEntsF 0 l).toArray x.toArray := by
          unfold leftOf
          simp only [Array.mem_filter, List.mem_toArray]
          exact ⟨BA9 l 0 i hi, by simpa using hc⟩
        have := Array.size_pos_of_mem hin
        omega
    · have he2 : e ∈ (mEntsF 0 l) ∧ e.born ∉ x := by
        have h3 : e ∈ leftOf (mEntsF 0 l).toArray x.toArray := by simpa using he
        unfold leftOf at h3
        simp only [Array.mem_filter, List.mem_toArray] at h3
        exact ⟨h3.1, by simpa using h3.2⟩
      obtain ⟨j, hj, rfl⟩ := AU2 l 0 he2.1
      have hjx : j ∉ x := by simpa using he2.2
      simp [execOp, hev, hrun]
      refine hK _ _ (h1 j hj hjx _ _ ?_)
      have s2 := s.put (Nat.le_of_ble_eq_true hn) (.tuple #[.bool true, .int .i64 l[j].1, l[j].2])
      have hr1 : w1.heap[rb]? = some (.mapIter (some m) l.length x.toArray l.length) := by rcases hw1 with rfl | rfl <;> exact hr
      obtain ⟨q1, q2⟩ := Ao8 (o' := itO m l (x ++ [j])) hr1
      have hmem1 : Mem W chg news w1 := by
        rcases hw1 with rfl | rfl
        · exact s.mem
        · exact s.mem.drew
      refine ⟨s2.size, s2.agree, s2.defers, ?_⟩
      have e1 : ChangeMaps.setBlock w1 rb (.mapIter (some m) l.length (x ++ [j]).toArray l.length) = { w1 with heap := w1.heap.setIfInBounds rb (itO m l (x ++ [j])) } := by
        simp [ChangeMaps.setBlock, itO]
      rw [e1]
      exact hmem1.upd_new (hu j) rfl rfl rfl (by simp) (fun k _ hk => q2 k hk) q1
/-- A whole array as a slice. -/
theorem Ar3 {x : Operand} {T : TypeId} {len sz b o : Nat} (hx : rev r x = some (.pointer (some ⟨b, o, none⟩))) (hT : arrB P T = some (len + 1, sz)) :
    Val P r W chg news { dst, op := .slice T x none none none, type := ty, pos, after, guard := gd } (.slice (some ⟨b, o, none⟩) (len + 1) (len + 1)) :=
  ⟨fun a w ha _ => by
    unfold arrB at hT
    split at hT
    · rename_i m e hu
      cases hj : P.info? e with
      | none => simp [hj] at hT
      | some j =>
        simp [hj] at hT
        obtain ⟨rfl, rfl⟩ := hT
        simp [execOp, ha.eval hx, Instr.sliceAt, Instr.sureAddr, Instr.sliceBounds, run_underlying hu, sizeOf, typeInfo, hj, add_plain]
    · cases hT⟩
/-- The method of what lies in an interface, as a value: there is a receiver. -/
theorem Ap8 {x : Operand} {name : String} {first cap : Array Value} {T : TypeId} {v : Value} (hx : rev r x = some (.func (.method name) first cap)) (hf : first[0]? = some (.iface T v)) (hn : ∀ w, (nilAhead (P.types.size + Made.depth) T v name).run P w = .ok (some false) w) :
    Val P r W chg news { dst, op := .nilCheck x, type := ty, pos, after, guard := gd } (.func (.method name) first cap) :=
  ⟨fun a w ha _ => by
    have h1 := hn w
    simp [execOp, ha.eval hx, hf, h1]⟩
end
/-- The entries that a loop has met. -/
structure Vis (n k : Nat) (x : List Nat) : Prop where
  nd : x.Nodup
  lt : ∀ i ∈ x, i < n
  len : x.length = k
theorem Vis.nil {n : Nat} : Vis n 0 [] := ⟨List.nodup_nil, fun i h => (by cases h), rfl⟩
theorem Vis.snoc {n k i : Nat} {x : List Nat} (h : Vis n k x) (hi : i < n) (hx : i ∉ x) : Vis n (k + 1) (x ++ [i]) :=
  ⟨List.nodup_append.2 ⟨h.nd, by simp, fun a ha b hb => by cases List.mem_singleton.1 hb; exact fun e => hx (e ▸ ha)⟩, fun j hj => by
    rcases List.mem_append.1 hj with hj | hj
    · exact h.lt j hj
    · cases List.mem_singleton.1 hj; exact hi, by simp [h.len]⟩
end Go.Eng
/- The engine: ways in the forced tail of a region that draws; max and min of three numbers. -/
namespace Go.Eng
open Go
variable {P : Program} {r : Regs} {W : World} {chg news : Blks}
theorem RunB.ways {ops : Array Oper} {Q : Exit → Act → World → Prop} {n : Nat} {ds : List Deferred} {fuel : Nat} {listed : Array Bool} {b : Bool} {dj : Nat} (hj : rget r dj = some (.bool b)) (h1 : b = true → RunB P ops Q n fuel listed ((dj, .bool true) :: r) ds W chg news)
    (h2 : b = false → RunB P ops Q n fuel listed ((dj, .bool false) :: r) ds W chg news) : RunB P ops Q n fuel listed r ds W chg news := fun a w s => by
  cases b with
  | true => exact h1 rfl a w (s.know hj rfl)
  | false => exact h2 rfl a w (s.know hj rfl)
section
variable {ty : TypeId} {pos : String} {after : Array Edge} {dst : Option Tmp} {gd : Option (Nat × Bool)}
end
end Go.Eng
/- The engine: strings, by the lists of their bytes; bytes of a string as a new block; maps whose keys are pairs. No program is in sight. -/
namespace Go.Eng
open Go Go.RowKit
def bs (l : List UInt8) : ByteArray := ⟨⟨l⟩⟩
theorem BC8 (l : List UInt8) : (bs l).size = l.length := rfl
def byteV (c : UInt8) : Value := .int .u8 c.toNat
structure NewX {β : Type} (P : Program) (r : Regs) (W : World) (chg news : Blks) (o : Oper) (v : β → Nat → Value) (ob : β → Obj) (I : β → Prop) : Prop where
  run : ∀ a w, Agree a r → Mem W chg news w → ∃ x, I x ∧ ((execOp a.eval o).run P w = .ok (.value (v x w.heap.size)) (w.alloc (ob x)) ∨ (execOp a.eval o).run P w = .ok (.value (v x w.heap.size)) (w.drew.alloc (ob x)))
section
variable {P : Program} {ops : Array Oper} {Q : Exit → Act → World → Prop} {n : Nat} {r : Regs} {ds : List Deferred} {W : World} {chg news : Blks} {rest : List Oper}
variable {d : Nat} {ty : TypeId} {pos : String} {after : Array Edge} {dst : Option Tmp} {gd : Option (Nat × Bool)}
variable {i : Nat} {K : Act → World → Prop}
/-- The bytes of a string, in a block of their own, with some zeros behind. -/
def bytesO (e : TypeId) (l : List Value) (p : Nat) : Obj := Obj.cells (l ++ List.replicate p (Value.int .u8 0)).toArray e (l.length + p, l.length + p + 1)
theorem NewX.bytes {x : Operand} {S T e : TypeId} {l : List UInt8} (hx : rev r x = some (.string (bs l))) (hS : P.underlying S = some .string) (hT : P.underlying T = some (.slice e)) (he : P.underlying e = some (.int .u8)) :
    NewX P r W chg news { dst, op := .convert S T x, type := ty, pos, after, guard := gd } (fun p b => .slice (some ⟨b, 0, none⟩) l.length (l.length + p)) (fun p => bytesO e (l.map byteV) p) (fun _ : Nat => True) :=
  ⟨fun a w ha _ => by
    refine ⟨(Question.appendCap l.length 0 e).cut (w.tape w.drawn (Question.appendCap l.length 0 e)) - l.length, trivial, .inr ?_⟩
    have hc : l.length ≤ (Question.appendCap l.length 0 e).cut (w.tape w.drawn (Question.appendCap l.length 0 e)) := by simp [Question.cut]
    generalize hq : (Question.appendCap l.length 0 e).cut (w.tape w.drawn (Question.appendCap l.length 0 e)) = q at hc ⊢
    have hf : (Question.appendCap l.length 0 e).forced = false := rfl
    have hb : (bs l).size = l.length := rfl
    simp only [execOp, ha.eval hx, convert, Sem.run_bind, run_underlying hS, run_underlying hT, Result.andThen_ok, Sem.run_pure, run_underlying he]
    simp only [Conv.stringToBytes, hb, Sem.run_bind, run_choose_drew, hf, hq, Result.andThen_ok, Sem.run_pure]
    have e1 : Array.map (fun b : UInt8 => Value.int IntKind.u8 (b.toNat : Int)) (bs l).data ++ Array.replicate (q - l.length) (Value.int IntKind.u8 0) = (l.map byteV ++ List.replicate (q - l.length) (Value.int .u8 0)).toArray := by
      simp [bs, byteV]
    have e2 : ((l.map byteV ++ List.replicate (q - l.length) (Value.int .u8 0)).toArray).size = q := by simp; omega
    have e3 : l.length + (q - l.length) = q := by omega
    simp only [Bool.false_eq_true, if_false, Result.andThen_ok, e1]
    generalize hX : (l.map byteV ++ List.replicate (q - l.length) (Value.int .u8 0)).toArray = X at e2 ⊢
    have h4 : (newRow e X).run P w.drew = .ok ⟨w.heap.size, 0, none⟩ (w.drew.alloc (.cells X e)) := by simp [newRow]
    have h5 : (markStringish ⟨w.heap.size, 0, none⟩).run P (w.drew.alloc (.cells X e)) = .ok () (w.drew.alloc (.cells X e (q, q + 1))) := by
      have h6 : (w.drew.alloc (.cells X e)).shape? w.heap.size = some (e, q) := by
        have h8 : (w.drew.alloc (.cells X e)).heap[w.heap.size]? = some (.cells X e) := by
          show (w.heap.push (Obj.cells X e))[w.heap.size]? = _
          simp
        unfold World.shape?
        rw [h8]
        simp only [e2]
      have h7 : (w.drew.alloc (.cells X e)).freeze { block := w.heap.size, off := q } 1 = w.drew.alloc (.cells X e (q, q + 1)) := by
        unfold World.freeze
        rw [if_neg (by decide)]
        show ({ w with drawn := w.drawn + 1, heap := (w.heap.push (Obj.cells X e)).modify w.heap.size _ } : World) = { w with drawn := w.drawn + 1, heap := w.heap.push (Obj.cells X e (q, q + 1)) }
        congr 1
        refine Array.ext (by simp) fun i h1 h2 => ?_
        simp only [Array.getElem_modify]
        by_cases hi : w.heap.size = i
        · subst hi; simp
        · have : i < w.heap.size := by simp at h2; omega
          simp [hi, Array.getElem_push, this]
      simp [markStringish, h6, h7]
    simp only [h4, Result.andThen_ok, h5, e3]
    subst hX
    simp [bytesO, e3]⟩
/-! ### Operations on strings -/
/-- A call of a function without a body, that the model knows. -/
theorem Val.ext {f : FuncId} {fn : Func} {e : Array Value → Sem Value} {xs : List Operand} {vs : List Value} {ats : Array TypeId} {v : Value} (hf : P.funcs[f]? = some fn) (hname : (fn.name == "runtime.NumGoroutine") = false) (hb : fn.body.isNone = true) (hn : Extern.findNext fn = none) (he : Extern.find fn = some e)
    (hx : revs r xs = some vs) (hv : ∀ w, (e vs.toArray).run P w = .ok v w) :
    Val P r W chg news { dst, op := .call { callee := .value (.func f), args := xs.toArray, argTypes := ats }, type := ty, pos, after, guard := gd } v :=
  ⟨fun a w ha _ => by
    have h1 := ha.evals hx
    have h2 := run_callFunc_extern hf hname hb hn he vs.toArray w
    rw [hv w] at h2
    simp [execOp, resolve, h1, Deferred.ofValue, Act.eval, invoke]
    exact h2⟩
theorem Bb9 {x y : Operand} {T : TypeId} {l : List UInt8} {k : IntKind} {i : Int} {c : UInt8} (hx : rev r x = some (.string (bs l))) (hy : rev r y = some (.int k i)) (hT : P.underlying T = some .string) (h0 : 0 ≤ i) (hc : l[i.toNat]? = some c) :
    Val P r W chg news { dst, op := .index T x y, type := ty, pos, after, guard := gd } (byteV c) :=
  ⟨fun a w ha _ => by
    obtain ⟨hi, he⟩ := List.getElem?_eq_some_iff.1 hc
    have h1 := run_index_string (P := P) w T (bs l) k i hT
    rw [dif_pos ⟨h0, by rw [BC8]; omega⟩] at h1
    have h2 : (bs l)[i.toNat]'(by rw [BC8]; exact hi) = c := he
    rw [h2] at h1
    simp [execOp, ha.eval hx, ha.eval hy, h1, byteV]⟩
theorem Val.nilIface {x : Operand} {t : TypeId} {v : Value} (hx : rev r x = some (.iface t v)) : Val P r W chg news { dst, op := .nilCheck x, type := ty, pos, after, guard := gd } (.iface t v) :=
  ⟨fun a w ha _ => by simp [execOp, ha.eval hx]⟩
/-- An array of elements of more cells: of how many, and how large they are. -/
def arrNB (P : Program) (T : TypeId) : Option (Nat × Nat) :=
  match P.underlying T with
  | some (.array n e) => match P.underlying e with
    | some d => if isAggD d then (P.info? e).map fun j => (n, j.size) else none
    | none => none
  | _ => none
theorem Az3 {x y : Operand} {T : TypeId} {len sz : Nat} {cs vs : List Value} {k : IntKind} {i : Int} (hx : rev r x = some (.agg cs.toArray)) (hy : rev r y = some (.int k i)) (hT : arrNB P T = some (len, sz)) (h0 : 0 ≤ i) (h1 : i < len) (hv : (cs.drop (i.toNat * sz)).take sz = vs) :
    Val P r W chg news { dst, op := .index T x y, type := ty, pos, after, guard := gd } (.agg vs.toArray) :=
  ⟨fun a w ha _ => by
    unfold arrNB at hT
    split at hT
    · rename_i n e hu
      split at hT
      · rename_i d hd
        split at hT
        · rename_i hag
          cases hj : P.info? e with
          | none => simp [hj] at hT
          | some j =>
            simp [hj] at hT
            obtain ⟨rfl, rfl⟩ := hT
            have h2 : (isAgg e).run P w = .ok true w := by
              cases d <;> simp [isAggD] at hag <;> simp [isAgg, run_underlying hd]
            have hp : (part e cs.toArray (i.toNat * j.size)).run P w = .ok (.agg vs.toArray) w := by
              simp [part, h2, sizeOf, typeInfo, hj]
              exact hv
            simp [execOp, ha.eval hx, ha.eval hy, Instr.index, asIntOf, run_underlying hu, h0, h1, sizeOf, typeInfo, hj, hp]
        · cases hT
      · cases hT
    · cases hT⟩
end
/-! ### Maps whose keys are pairs of numbers -/
def pk (p : Nat × Nat) : Value := .agg #[.int .i64 (p.1 : Int), .int .u64 (p.2 : Int)]
def entsG : Nat → List ((Nat × Nat) × Value) → List MapEntry
  | _, [] => []
  | i, x :: l => { key := pk x.1, val := x.2, born := i } :: entsG (i + 1) l
def gIdx : List ((Nat × Nat) × Value) → Nat × Nat → Option (Nat × Value)
  | [], _ => none
  | x :: l, a => if x.1 = a then some (0, x.2) else (gIdx l a).map fun p => (p.1 + 1, p.2)
def keyPairB (P : Program) (k : TypeId) : Bool := match P.underlying k with
  | some (.struct fs) => match fs.toList with
    | [f, g] => decide (f.name ≠ "_") && decide (g.name ≠ "_") && f.offset == 0 && g.offset == 1 && (P.underlying f.type).any isIntD && (P.underlying g.type).any isIntD
    | _ => false
  | _ => false
def mapKB (P : Program) (T : TypeId) : Option (TypeId × TypeId) := match P.underlying T with
  | some (.map k e) => some (k, e)
  | _ => none
structure Keyed (P : Program) (T k E : TypeId) : Prop where
  map : mapKB P T = some (k, E)
  fields : keyPairB P k = true
  agg : aggB P k = true
  eq : ∀ a b c d : Int, eqF P 8 k [.int .i64 a, .int .u64 b] [.int .i64 c, .int .u64 d] = some (decide (a = c) && (decide (b = d) && true))
section
variable {P : Program} {ops : Array Oper} {Q : Exit → Act → World → Prop} {n : Nat} {r : Regs} {ds : List Deferred} {W : World} {chg news : Blks} {rest : List Oper}
variable {d : Nat} {ty : TypeId} {pos : String} {after : Array Edge} {dst : Option Tmp} {gd : Option (Nat × Bool)}
theorem Keyed.str {T k E : TypeId} (h : Keyed P T k E) : ∃ f g q q', P.underlying k = some (.struct #[f, g]) ∧ f.name ≠ "_" ∧ g.name ≠ "_" ∧ f.offset = 0 ∧ g.offset = 1 ∧ P.underlying f.type = some (.int q) ∧ P.underlying g.type = some (.int q') := by
  have h1 := h.fields
  unfold keyPairB at h1
  split at h1
  · rename_i fs hu
    split at h1
    · rename_i f g hfs
      simp only [Bool.and_eq_true, decide_eq_true_eq, beq_iff_eq] at h1
      obtain ⟨⟨⟨⟨⟨a1, a2⟩, a3⟩, a4⟩, a5⟩, a6⟩ := h1
      obtain ⟨q, hq⟩ := AN2 a5
      obtain ⟨q', hq'⟩ := AN2 a6
      have e : fs = #[f, g] := by
        have := congrArg List.toArray hfs
        simpa using this
      exact ⟨f, g, q, q', by rw [hu, e], a1, a2, a3, a4, hq, hq'⟩
    · cases h1
  · cases h1
theorem Keyed.same {T k E : TypeId} (h : Keyed P T k E) (a b : Nat × Nat) (w : World) : (Op.equal k (pk a) (pk b)).run P w = .ok (decide (a = b)) w := by
  have h1 := Be2 9992 8 k _ _ _ w (h.eq (a.1 : Int) (a.2 : Int) (b.1 : Int) (b.2 : Int))
  rw [(An6 h.agg _).2, (An6 h.agg _).2] at h1
  have e : decide (a = b) = (decide ((a.1 : Int) = b.1) && (decide ((a.2 : Int) = b.2) && true)) := by
    rw [Bool.eq_iff_iff]
    simp only [Bool.and_eq_true, decide_eq_true_eq, and_true, Prod.ext_iff]
    omega
  rw [e]
  exact h1
theorem Keyed.asking {T k E : TypeId} (h : Keyed P T k E) (a : Nat × Nat) (w : World) : ∀ (l : List ((Nat × Nat) × Value)) (i j : Nat), (Instr.findAsking k (pk a) (entsG i l) j).run P w = .ok ((gIdx l a).map fun p => (j + p.1, p.2)) w
  | [], _, _ => rfl
  | x :: l, i, j => by
    unfold entsG Instr.findAsking gIdx
    have h1 := h.same a x.1 w
    by_cases hx : x.1 = a
    · subst hx
      simp at h1
      simp [h1]
    · have hx2 : ¬ a = x.1 := fun e => hx e.symm
      simp only [hx2, decide_false] at h1
      simp only [Sem.run_bind, h1, Result.andThen_ok, Bool.false_eq_true, if_false, if_neg hx, Keyed.asking h a w l (i + 1) (j + 1)]
      cases gIdx l a with
      | none => rfl
      | some p => simp; omega
theorem Keyed.find {T k E : TypeId} (h : Keyed P T k E) (a : Nat × Nat) (l : List ((Nat × Nat) × Value)) (w : World) : (Instr.findKey k (pk a) (entsG 0 l)).run P w = .ok (gIdx l a) w := by
  obtain ⟨f, g, q, q', hu, _⟩ := h.str
  have h2 := h.asking a w l 0 0
  have e : ((gIdx l a).map fun p => (0 + p.1, p.2)) = gIdx l a := by cases gIdx l a <;> simp
  rw [e] at h2
  cases l with
  | nil => simp [Instr.findKey, run_underlying hu, entsG, Instr.findNow, gIdx]
  | cons x l =>
    have h3 : Instr.findNow (.struct #[f, g]) (pk a) (entsG 0 (x :: l)) 0 = none := by
      unfold entsG Instr.findNow
      rfl
    simp [Instr.findKey, run_underlying hu, h3, h2]
end
end Go.Eng
/- The engine: calls that turn a block into one of some. No program is in sight. -/
namespace Go.Eng
open Go Go.RowKit
section
variable {P : Program} {ops : Array Oper} {Q : Exit → Act → World → Prop} {n : Nat} {r : Regs} {ds : List Deferred} {W : World} {chg news : Blks} {rest : List Oper} {d : Nat}
variable {K : Act → World → Prop} {i : Nat}
theorem AA8 {w : World} {T e : TypeId} {b : Addr} {k c : Nat} (hT : P.underlying T = some (.slice e)) : (Op.equal T (.slice (some b) k c) (.slice none 0 0)).run P w = .ok false w := by
  have h : ∀ d, (Op.equalIn (d + 1) T (.slice (some b) k c) (.slice none 0 0)).run P w = .ok false w := fun d => by simp [Op.equalIn, run_underlying hT]
  exact h 9999
variable {ty : TypeId} {pos : String} {after : Array Edge} {dst : Option Tmp} {gd : Option (Nat × Bool)}
theorem Bc3 {x : Operand} {T yt e : TypeId} {b : Addr} {k c : Nat} (hx : rev r x = some (.slice (some b) k c)) (hT : P.underlying T = some (.slice e)) :
    Val P r W chg news { dst, op := .binOp .eql T x (.const (.slice none 0 0)) yt, type := ty, pos, after, guard := gd } (.bool false) :=
  ⟨fun a w ha _ => by
    have h := AA8 (P := P) (w := w) (b := b) (k := k) (c := c) hT
    simp [execOp, ha.eval hx, BigFrame.eval_const, eqGuard, binOp, h]⟩
end
end Go.Eng
/- The engine: strings of runes and of bytes. No program is in sight. -/
namespace Go.Eng
open Go Go.RowKit
section
variable {P : Program} {r : Regs} {W : World} {chg news : Blks} {dst : Option Tmp} {gd : Option (Nat × Bool)} {ty : TypeId} {pos : String} {after : Array Edge}
theorem AB8 {x : Operand} {T e : TypeId} {sz s2 n : Nat} {z : Own} {xs : List Value} (hx : rev r x = some (ownV z n)) (hT : slB P T = some (e, sz)) (h : OwnOk s2 z n xs) :
    Val P r W chg news { dst, op := .call { callee := .builtin .len, args := #[x], argTypes := #[T] }, type := ty, pos, after, guard := gd } (.int .i64 (n : Int)) := by
  rw [Af8 h] at hx
  exact Ag7 hx hT
theorem Bh5 {ops : Array Oper} {Q : Exit → Act → World → Prop} {n : Nat} {ds : List Deferred} {rest : List Oper} {d : Nat} {β : Type} {o : Oper} {f : FuncId} {args : Array Value} {v : β → Value} {U : β → Blks} (A T : Blks) (hne : news = A ++ T) (hi : IsCall P r o f args) (hg : guardB ops r o.guard = some true) (hd : o.dst = some d) (hn : Nat.ble (d + 1) n = true)
    (hc : ∀ w, Mem W chg news w → Calls P f args w (News v (fun b => U b ++ []) w)) (h : ∀ b, RunL P ops Q n rest ((d, v b) :: r) ds W chg (A ++ (U b ++ T))) : RunL P ops Q n (o :: rest) r ds W chg news :=
  RunL.call hg hd (fun a w s => hi.runs a w s.agree) hc (fun a w e w' s hR => by
    obtain ⟨b, rfl, hm⟩ := hR
    have s2 := s.put (Nat.le_of_ble_eq_true hn) (v b)
    have h1 : Mem W chg ((U b ++ []) ++ news) w' := s.mem.trans hm
    rw [List.append_nil, hne] at h1
    exact h b _ _ ⟨s2.size, s2.agree, s2.defers, h1.perm (List.perm_append_comm_assoc _ _ _)⟩)
theorem BI7 (z : Value) (n : Nat) : madeCells #[z] (n * 1) = (List.replicate n z).toArray := by
  unfold madeCells
  refine Array.ext (by simp) fun i h1 h2 => ?_
  simp [Nat.mod_one]
theorem New.makeSlice {x y : Operand} {T e : TypeId} {n by_ : Nat} {z : Value} {kx ky : IntKind} (hx : rev r x = some (.int kx (n : Int))) (hy : rev r y = some (.int ky (n : Int))) (hT : apB P T = some (e, 1, by_)) (hz : zeroB P e = some [z]) (hn : n ≤ 1000000) (hb : by_ ≤ 1000) :
    New P r W chg news { dst, op := .makeSlice T x y, type := ty, pos, after, guard := gd } (fun b => .slice (some ⟨b, 0, none⟩) n n) (.cells (List.replicate n z).toArray e (0, 0)) :=
  ⟨fun a w ha _ => by
    obtain ⟨hu, i, zz, hi, hzi, h2, h3, _, _⟩ := AV7 hT
    unfold zeroB at hz
    simp only [hi, hzi, Option.bind_some, Option.map_some, Option.some.injEq] at hz
    have hz2 : zz.cells = #[z] := by
      apply Array.toList_inj.1
      rw [hz]
    have hb2 : (i.bytes : Int) * (n : Int) ≤ 281474976710656 := by
      have h4 : i.bytes * n ≤ 1000 * 1000000 := Nat.mul_le_mul (by omega) hn
      have h5 : ((i.bytes * n : Nat) : Int) ≤ 281474976710656 := by omega
      rwa [Int.natCast_mul] at h5
    have hr := run_makeSlice (P := P) w T e i zz hu hi hzi kx ky n n (by omega) (Int.le_refl _) (by rw [h2]; omega) hb2 (by omega)
    rw [h2, hz2, Int.toNat_natCast, BI7] at hr
    simp [execOp, ha.eval hx, ha.eval hy, hr]⟩
end
end Go.Eng
namespace Go.Eng
open Go Go.RowKit
section
variable {P : Program} {ops : Array Oper} {Q : Exit → Act → World → Prop} {n : Nat} {r : Regs} {ds : List Deferred} {W : World} {chg news : Blks} {rest : List Oper}
variable {d : Nat} {ty : TypeId} {pos : String} {after : Array Edge} {dst : Option Tmp} {gd : Option (Nat × Bool)}
end
end Go.Eng
/- The engine: calls in a world that has blocks of the caller's; calls that may panic there; ranges over functions whose rounds may panic. No program is in sight. -/
namespace Go.Eng
open Go Go.RowKit
open Classical in
/-- What is told of less often may be picked. -/
theorem Pick.cnt : ∀ {l l' : Blks} (_ : ∀ x, l.count x ≤ l'.count x), Pick l l'
  | [], _, _ => .nil
  | (b, o) :: l, l', h => by
    have h1 : (b, o) ∈ l' := by
      have := h (b, o)
      rw [List.count_cons_self] at this
      exact List.count_pos_iff.1 (by omega)
    have take : ∀ {l' : Blks}, (b, o) ∈ l' → ∃ l2, Take (b, o) l' l2 := by
      intro l'
      induction l' with
      | nil => intro h; cases h
      | cons y l' ih =>
        intro h
        rcases List.mem_cons.1 h with rfl | h
        · exact ⟨_, .here⟩
        · obtain ⟨l2, h2⟩ := ih h; exact ⟨_, .there h2⟩
    obtain ⟨l2, h2⟩ := take h1
    refine .cons h2 rfl (Pick.cnt fun x => ?_)
    have h3 := h x
    rw [h2.perm.count_eq, List.count_cons, List.count_cons] at h3
    omega
/-- What comes back is measured by the caller's own beginning. -/
def Grow {β : Type} (W0 : World) (chg : Blks) (v : β → Value) (nw : β → Blks) (I : β → Prop) (e : Ending) (w : World) : Prop := ∃ b : β, I b ∧ e = .returned (v b) ∧ Mem W0 chg (nw b) w
section
variable {P : Program} {ops : Array Oper} {Q : Exit → Act → World → Prop} {n : Nat} {r : Regs} {ds : List Deferred} {W : World} {chg news : Blks} {rest : List Oper} {d : Nat}
theorem AG3 {f : FuncId} {fn : Func} {c : Code} {vs : List Value} {R : Ending → World → Prop} {w : World} (hm : Mem W chg news w) (hf : P.funcs[f]? = some fn) (hb : fn.body = some c) (hn : Nat.ble vs.length fn.ntmps = true)
    (h : RunC P (bodyPost P fn R) fn.ntmps c (args0 0 vs) [] W chg news) : Calls P f vs.toArray w R := by
  have s := At5 (Nat.le_of_ble_eq_true hn) (Mem.refl w) (vs := vs)
  exact calls_of_wp hf hb (h _ _ ⟨s.size, s.agree, s.defers, hm⟩)
theorem Bs1 {β : Type} {o : Oper} {f : FuncId} {args : Array Value} {v : β → Value} {nw : β → Blks} {I : β → Prop} (hi : IsCall P r o f args) (hg : guardB ops r o.guard = some true) (hd : o.dst = some d) (hn : Nat.ble (d + 1) n = true)
    (hc : ∀ w, Mem W chg news w → Calls P f args w (Grow W chg v nw I)) (h : ∀ b, I b → RunL P ops Q n rest ((d, v b) :: r) ds W chg (nw b)) : RunL P ops Q n (o :: rest) r ds W chg news :=
  RunL.call hg hd (fun a w s => hi.runs a w s.agree) hc (fun a w e w' s hR => by
    obtain ⟨b, hI, rfl, hm⟩ := hR
    have s2 := s.put (Nat.le_of_ble_eq_true hn) (v b)
    exact h b hI _ _ ⟨s2.size, s2.agree, s2.defers, hm⟩)
theorem Bs3 {i : Nat} {K : Act → World → Prop} {β : Type} {o : Oper} {f : FuncId} {args : Array Value} {v : β → Value} {nw : β → Blks} {I : β → Prop} (ho : ops[i]? = some o) (hi : IsCall P r o f args) (hg : guardB ops r o.guard = some true) (hd : o.dst = some d) (hn : Nat.ble (d + 1) n = true)
    (hc : ∀ w, Mem W chg news w → Calls P f args w (Grow W chg v nw I)) (h : ∀ b, I b → RunK n K ((d, v b) :: r) ds W chg (nw b)) : RunI P ops Q n i K r ds W chg news :=
  RunI.call ho hi hg hc (fun a w e w' s hR => by
    obtain ⟨b, hI, rfl, hm⟩ := hR
    have s2 := s.put (Nat.le_of_ble_eq_true hn) (v b)
    simp only [hd]
    exact h b hI _ _ ⟨s2.size, s2.agree, s2.defers, hm⟩)
theorem AN7 {β : Type} {fn : Func} {v : β → Value} {nw : β → Blks} {I : β → Prop} (x : β) (hx : I x) {u : Value} (hv : ResVs P r (chg ++ news) fn u) (he : u = v x) (hp : Pick (nw x) news) : RunE (bodyPost P fn (Grow W chg v nw I)) n .ret r [] W chg news :=
  RunE.ret hv (fun _ hm => ⟨x, hx, by rw [he], hm.pick hp⟩)
section
variable {β γ : Type} {fn : Func} {v : β → Value} {nw : β → Blks} {I : β → Prop} {mis : Int → Value} {kk : γ → Int} {np : γ → Blks} {J : γ → Prop}
end
end

/-! ### The code of one function that is known -/
def wpAt (f : FuncId) (P : Program) (c : Code) (Q : Exit → Act → World → Prop) (a : Act) (w : World) : Prop :=
  ∀ (b : Frame) (k : List Item) (cs : List Frame), b.roundOf = none → b.fn = f →
    ∃ e a' w', Q e a' w' ∧ ArrivesIn (Machine.fenced P (Fr none)) P (lone (b.atR a (.code c :: k)) cs w) b k cs e a' w'
section
variable {f : FuncId} {P : Program} {Q : Exit → Act → World → Prop} {a : Act} {w : World}
theorem BF4 {x y : Code} (h : wpAt f P x (Exit.then (wpAt f P y Q) Q) a w) : wpAt f P (.seq x y) Q a w := by
  intro b k cs hro hb
  have h0 : (lone (b.atR a (.code (.seq x y) :: k)) cs w).fenced P (Fr none) := fenced_calm (n := 9) trivial (room_wide _) rfl
  obtain ⟨e, a₁, w₁, hq, harr⟩ := h b (.code y :: k) cs hro hb
  cases e with
  | normal =>
    obtain ⟨e₂, a₂, w₂, hq₂, harr₂⟩ := hq b k cs hro hb
    exact ⟨e₂, a₂, w₂, hq₂, .of_steps (.head h0 stepR_seq harr) harr₂⟩
  | exit id => exact ⟨_, a₁, w₁, hq, .of_steps (.one h0 stepR_seq) (.pass (x := .code y) rfl (fun _ _ => .inl (by simp)) harr)⟩
  | goto l => exact ⟨_, a₁, w₁, hq, .of_steps (.one h0 stepR_seq) (.pass (x := .code y) rfl (fun _ _ => .inl (by simp)) harr)⟩
  | ret => exact ⟨_, a₁, w₁, hq, .of_steps (.one h0 stepR_seq) (.pass (x := .code y) rfl (fun _ _ => .inl (by simp)) harr)⟩
  | panic ch => exact ⟨_, a₁, w₁, hq, .of_steps (.one h0 stepR_seq) (.pass (x := .code y) rfl (fun _ _ => .inl (by simp)) harr)⟩
  | outgrown => exact ⟨_, a₁, w₁, hq, .of_steps (.one h0 stepR_seq) (.pass (x := .code y) rfl (fun _ _ => .inl (by simp)) harr)⟩
theorem Bn5 {id : Nat} {c : Code} (h : wpAt f P c (Exit.inBlock id Q) a w) : wpAt f P (.block id c) Q a w := by
  intro b k cs hro hb
  have h0 : (lone (b.atR a (.code (.block id c) :: k)) cs w).fenced P (Fr none) := fenced_calm (n := 9) trivial (room_wide _) rfl
  obtain ⟨e, a₁, w₁, hq, harr⟩ := h b (.inBlock id :: k) cs hro hb
  cases e with
  | normal => exact ⟨.normal, a₁, w₁, hq, .head h0 stepR_block (StepsIn.trans harr (.one (fenced_calm (n := 9) trivial (room_wide _) rfl) stepR_inBlock))⟩
  | exit id' =>
    by_cases hid : id' = id
    · simp only [Exit.inBlock, hid, if_true] at hq
      exact ⟨.normal, a₁, w₁, hq, .head h0 stepR_block (harr.1 k (by simp [exitTo, hid]))⟩
    · simp only [Exit.inBlock, hid, if_false] at hq
      have this : (id == id') = false := by simp; exact fun h => hid h.symm
      have hx : exitTo id' (.inBlock id :: k) = exitTo id' k := by simp [exitTo, this]
      exact ⟨.exit id', a₁, w₁, hq, fun k' hk => .head h0 stepR_block (harr.1 k' (by rw [hx]; exact hk)),
        fun hr' hk => let ⟨k₁, h1, h2⟩ := harr.2 hr' (by rw [hx]; exact hk); ⟨k₁, h1, .head h0 stepR_block h2⟩⟩
  | goto l =>
    have hx : gotoIn l (.inBlock id :: k) = gotoIn l k := by simp [gotoIn]
    exact ⟨_, a₁, w₁, hq, fun k' hk => .head h0 stepR_block (harr.1 k' (by rw [hx]; exact hk)),
      fun hr' hk => let ⟨k₁, h1, h2⟩ := harr.2 hr' (by rw [hx]; exact hk); ⟨k₁, h1, .head h0 stepR_block h2⟩⟩
  | ret => exact ⟨_, a₁, w₁, hq, .of_steps (.one h0 stepR_block) harr⟩
  | panic ch => exact ⟨_, a₁, w₁, hq, .of_steps (.one h0 stepR_block) harr⟩
  | outgrown => exact ⟨_, a₁, w₁, hq, .of_steps (.one h0 stepR_block) harr⟩

/-- What is asked when the function that was ranged over has ended. -/
def rangeEnd (f : FuncId) (P : Program) (l : Nat) (Q : Exit → Act → World → Prop) (a : Act) : Ending → World → Prop
  | .returned _, w => ∃ jump w', (Instr.endLoop l).run P w = .ok jump w' ∧ (match jump with
    | none => Q .normal a w'
    | some c => wpAt f P c Q a w')
  | .panicked c, w => Q (.panic c) a w
  | .outgrown, _ => LetsOut Q
theorem AO6 {g : Operand} {ps : Array Tmp} {assign body : Code} {l : Nat} {mark : List Deferred} {w₁ w₂ w₃ : World} {d : Deferred} {gf : FuncId} {args : Array Value}
    (he : (Instr.enterLoop f a.tmps ps assign body none).run P w = .ok (l, mark) w₁) (hres : (resolve a.eval (rangeCall g l) 0).run P w₁ = .ok d w₂) (hinv : (invoke d.target d.args).run P w₂ = .ok (.enter gf args) w₃)
    (hcall : CallsIn (Fr none) 8 P gf args w₃ (rangeEnd f P l Q { a with defers := mark ++ a.defers })) : wpAt f P (.rangeFunc g ps assign body) Q a w := by
  intro b k cs hro hb
  rw [← hb, ← hro] at he
  have h0 : (lone (b.atR a (.code (.rangeFunc g ps assign body) :: k)) cs w).fenced P (Fr none) := fenced_lone (.inl trivial) (fun _ _ => trivial) (room_wide _)
  have henter := stepR_rangeFunc (P := P) (b := b) (a := a) (k := k) (cs := cs) (w := w) he hres hinv
  obtain ⟨e, w₄, fr, hR, hsteps, _, hleave⟩ := hcall.2 (b.atR { a with defers := mark ++ a.defers } (.inRangeFunc l :: k) :: cs) (room_wide _)
  cases e with
  | outgrown =>
    obtain ⟨a₀, w₀, hq⟩ := hR
    exact ⟨.outgrown, a₀, w₀, hq, .inr (Outgrown.of_steps (.one henter) hsteps)⟩
  | returned v =>
    have hl : (lone fr (b.atR { a with defers := mark ++ a.defers } (.inRangeFunc l :: k) :: cs) w₄).fenced P (Fr none) := fenced_leaving (n := 9) trivial (room_wide _) hleave
    obtain ⟨jump, w₅, hend, hj⟩ := hR
    have sback : StepsIn (Machine.fenced P (Fr none)) P (lone (b.atR a (.code (.rangeFunc g ps assign body) :: k)) cs w) (lone (b.atR { a with defers := mark ++ a.defers } ((jump.map Item.code).toList ++ k)) cs w₅) := by
      refine .head h0 henter (StepsIn.trans hsteps (.head hl ?_ (.one (fenced_calm (n := 9) (fr := b.atR { a with defers := mark ++ a.defers } (.endRangeFunc l :: k)) trivial (room_wide _) rfl) (stepR_endRangeFunc hend))))
      rw [← finish_atR_inRangeFunc l v]; exact step_leave_returned hleave
    cases jump with
    | none => exact ⟨.normal, _, w₅, hj, sback⟩
    | some c =>
      obtain ⟨e', a'', w₆, hq, harr⟩ := hj b k cs hro hb
      exact ⟨e', a'', w₆, hq, .of_steps sback harr⟩
  | panicked chain =>
    have hl : (lone fr (b.atR { a with defers := mark ++ a.defers } (.inRangeFunc l :: k) :: cs) w₄).fenced P (Fr none) := fenced_leaving (n := 9) trivial (room_wide _) hleave
    refine ⟨.panic chain, _, w₄, hR, .inRangeFunc l :: k, .head h0 henter (StepsIn.trans hsteps (.one hl ?_))⟩
    rw [← Frame.raise_atR]; exact step_leave_panicked hleave

/-! ### A round that may panic -/
def roundEnd (P : Program) (l : Nat) (R : Ending → World → Prop) : Exit → Act → World → Prop
  | .normal, _, w => ∃ v w', (Instr.endRound l none).run P w = .ok v w' ∧ R (.returned v) w'
  | .ret, _, w => ∃ v w', (Instr.endRound l (some .ret)).run P w = .ok v w' ∧ R (.returned v) w'
  | .exit id, _, w => ∃ v w', (Instr.endRound l (some (.exit id))).run P w = .ok v w' ∧ R (.returned v) w'
  | .panic c, a, w => a.defers = [] ∧ R (.panicked c) w
  | _, _, _ => False
theorem BH2 {l m : Nat} {tmps : Array Value} {assign body : Code} {R : Ending → World → Prop} {fn0 : Func} (hfn : P.funcs[f]? = some fn0)
    (h : assign.wpIn (Fr (some l)) 9 P (Exit.then (fun a₁ w₁ => ∃ w₂, (Instr.beginRound l).run P w₁ = .ok () w₂ ∧ body.wpIn (Fr (some l)) 9 P (roundEnd P l R) a₁ w₂) (fun _ _ _ => False)) { tmps := tmps, defers := [] } w) :
    RoundIn (Fr none) m P l f tmps assign body w R := by
  refine ⟨trivial, fun c cs _ => ?_⟩
  let b : Frame := { (default : Frame) with fn := f, kind := .normal, roundOf := some l }
  have hb0 : Frame.round l f tmps assign body .normal = b.atR { tmps := tmps, defers := [] } [.code assign, .beginRound, .code body] := by
    simp [Frame.round, Frame.atR, b]
  obtain ⟨e, a₁, w₁, hq, harr⟩ := h b [.beginRound, .code body] (c :: cs) rfl trivial (room_wide _)
  rw [← hb0] at harr
  cases e with
  | normal =>
    obtain ⟨w₂, hbr, hbody⟩ := hq
    have s1 : StepsIn (Machine.fenced P (Fr (some l))) P (lone (b.atR a₁ [.beginRound, .code body]) (c :: cs) w₁) (lone (b.atR a₁ [.code body]) (c :: cs) w₂) :=
      .one (fenced_calm (n := 9) (fr := b.atR a₁ [.beginRound, .code body]) trivial (room_wide _) rfl) (stepR_beginRound rfl hbr)
    obtain ⟨e₂, a₂, w₃, hq₂, harr₂⟩ := hbody b [] (c :: cs) rfl trivial (room_wide _)
    cases e₂ with
    | normal =>
      obtain ⟨v, w₄, hend, hR⟩ := hq₂
      exact ⟨.returned v, w₄, hR, (StepsIn.trans harr s1).trans (StepsIn.trans harr₂ (.one (fenced_calm (n := 9) (fr := b.atR a₂ []) trivial (room_wide _) rfl) (stepR_round_end rfl rfl hend)))⟩
    | ret =>
      obtain ⟨v, w₄, hend, hR⟩ := hq₂
      obtain ⟨k₁, hs⟩ := harr₂.2 rfl
      exact ⟨.returned v, w₄, hR, (StepsIn.trans harr s1).trans (StepsIn.trans hs (.one (fenced_calm (n := 9) (fr := b.atR a₂ (.code .ret :: k₁)) trivial (room_wide _) rfl) (stepR_round_ret rfl rfl hend)))⟩
    | exit id =>
      obtain ⟨v, w₄, hend, hR⟩ := hq₂
      obtain ⟨k₁, hk, hs⟩ := harr₂.2 rfl rfl
      exact ⟨.returned v, w₄, hR, (StepsIn.trans harr s1).trans (StepsIn.trans hs (.one (fenced_calm (n := 9) (fr := b.atR a₂ (.code (.exit id) :: k₁)) trivial (room_wide _) rfl) (stepR_round_exit rfl rfl hk hend)))⟩
    | goto t => exact hq₂.elim
    | panic chain =>
      obtain ⟨hd, hR⟩ := hq₂
      obtain ⟨todo, hs⟩ := harr₂
      have hl : ({ b.atR a₂ todo with mode := .panicking chain } : Frame).leaving P w₃ (.panicked chain) := ⟨rfl, hd, fn0, hfn⟩
      exact ⟨.panicked chain, w₃, hR, (StepsIn.trans harr s1).trans (StepsIn.trans hs (.one (fenced_leaving (n := 9) trivial (room_wide _) hl) (step_leave_panicked hl)))⟩
    | outgrown => exact hq₂.elim
  | exit id => exact hq.elim
  | goto t => exact hq.elim
  | ret => exact hq.elim
  | panic chain => exact hq.elim
  | outgrown => exact hq.elim
end
end Go.Eng
/- The engine: ranges over functions whose rounds may panic: the iterator's contract, the loop, leaving. No program is in sight. -/
namespace Go.Eng
open Go Go.RowKit
/-- What an iterator keeps to: it hands over some elements, one after the other, with what belongs to each (eb), whatever the caller's blocks are; its own blocks: itb. It may panic by itself. -/
def SeqQ {α : Type} (P : Program) (gf : FuncId) (lb : Array Value) (encs : α → List Value) (eb : α → Blks) (itb : Blks) (mis : Int → Value) (S Sp : List α → Prop) (Sq : Int → List α → Prop) (N : Nat) (W0 : World) : Prop :=
  ∀ {X : Type} (l : Nat) (U : X → Blks) (I : List α → X → Prop) (Ix : X → Prop) (Ip : List PanicEntry → X → Prop) (rest : Blks) (w : World) (x0 : X),
    (∀ pre v x tl w1, I pre x → Sp (pre ++ [v]) → pre.length < N → Mem W0 [] (eb v ++ (U x ++ tl)) w1 → YieldAt (Fr none) 8 P l (encs v).toArray w1 fun e w' => ∃ x', Mem W0 [] (U x' ++ tl) w' ∧ ((e = .returned (.bool true) ∧ I (pre ++ [v]) x') ∨ (e = .returned (.bool false) ∧ Ix x') ∨ (∃ c, e = .panicked c ∧ Ip c x'))) →
    I [] x0 → Mem W0 [] (U x0 ++ (itb ++ rest)) w →
    CallsIn (Fr none) 8 P gf (#[.func (.yield l) #[] #[]] ++ lb) w fun e w' => ∃ x', Mem W0 [] (U x' ++ rest) w' ∧
      ((∃ v, e = .returned v ∧ ((∃ xs, S xs ∧ I xs x') ∨ Ix x')) ∨ (∃ c, e = .panicked c ∧ Ip c x') ∨ (∃ k xs, e = .panicked [{ v := mis k, recovered := false }] ∧ Sq k xs ∧ I xs x'))
section
variable {f : FuncId} {ro : Option Nat} {P : Program} {ops : Array Oper} {Q : Exit → Act → World → Prop} {n : Nat} {r : Regs} {ds : List Deferred} {W : World} {chg news : Blks} {rest : List Oper} {d : Nat}
def RunCF (f : FuncId) (P : Program) (Q : Exit → Act → World → Prop) (n : Nat) (c : Code) (r : Regs) (ds : List Deferred) (W : World) (chg news : Blks) : Prop := ∀ a w, St n r ds W chg news a w → wpAt f P c Q a w
theorem RunCF.seq {x y : Code} (h : RunCF f P (Exit.then (wpAt f P y Q) Q) n x r ds W chg news) : RunCF f P Q n (.seq x y) r ds W chg news := fun a w s => BF4 (h a w s)
theorem RunCF.block {id : Nat} {c : Code} (h : RunCF f P (Exit.inBlock id Q) n c r ds W chg news) : RunCF f P Q n (.block id c) r ds W chg news := fun a w s => Bn5 (h a w s)
theorem RunEF.next {y : Code} {Q' : Exit → Act → World → Prop} (h : RunCF f P Q n y r ds W chg news) : RunE (Exit.then (wpAt f P y Q) Q') n .normal r ds W chg news := fun a w s => h a w s
theorem Bv4 {m k l : Nat} {fn : FuncId} {tmps : Array Value} {assign body : Code} {w : World} {R : Ending → World → Prop} {ro' : Option Nat} (h : RoundIn (Fr ro) m P l fn tmps assign body w R) : RoundIn (Fr ro') k P l fn tmps assign body w R := by
  refine ⟨trivial, fun c cs _ => ?_⟩
  obtain ⟨e, w', h1, h2⟩ := h.2 c cs (by cases ro <;> exact room_wide _)
  have e1 : Machine.fenced P (Fr ro) = Machine.fenced P (Fr ro') := by cases ro <;> cases ro' <;> rfl
  rw [e1] at h2
  exact ⟨e, w', h1, h2⟩
/-- The round comes; the caller's blocks are said anew. -/
theorem Bc5 {β γ : Type} {o : Oper} {l : Nat} {args : Array Value} {v : β → Value} {nw : β → Blks} {I : β → Prop} {cc : γ → List PanicEntry} {np : γ → Blks} {J : γ → Prop} (hi : IsYield P r o l args) (hg : guardB ops r o.guard = some true) (hd : o.dst = some d) (hn : Nat.ble (d + 1) n = true)
    (hy : ∀ w, Mem W chg news w → YieldAt (Fr none) 8 P l args w fun e w' => (∃ b, I b ∧ e = .returned (v b) ∧ Mem W chg (nw b) w') ∨ (∃ c, J c ∧ e = .panicked (cc c) ∧ Mem W chg (np c) w'))
    (hp : ∀ c, J c → RunE Q n (.panic (cc c)) r ds W chg (np c)) (h : ∀ b, I b → RunLR ro P ops Q n rest ((d, v b) :: r) ds W chg (nw b)) (hnd : notDefer o = true := by rfl) : RunLR ro P ops Q n (o :: rest) r ds W chg news := fun a w s =>
  Aw0 (Af9 s.agree hg) hnd fun K hK => by
    obtain ⟨fn, tmps, assign, body, hy1, hy2⟩ := hy w s.mem
    rw [hi.runs a w s.agree, hy1, Oper.uponIn_round]
    refine ⟨fun h => (by cases ro <;> cases h), (Bv4 hy2).mono ?_⟩
    rintro e w' (⟨b, hb, rfl, hm⟩ | ⟨c, hc, rfl, hm⟩)
    · show K _ _
      rw [hd]
      have s2 := s.put (Nat.le_of_ble_eq_true hn) (v b)
      exact hK _ _ (h b hb _ _ ⟨s2.size, s2.agree, s2.defers, hm⟩)
    · exact hp c hc a w' ⟨s.size, s.agree, s.defers, hm⟩

/-! ### The loop -/
def recO (fn : FuncId) (tmps : Array Value) (ps : Array Tmp) (assign body : Code) (D : Nat) (st : LoopState) (pe : Option Code) : Obj := .loop { state := st, pending := pe, fn, tmps, params := ps, assign, body, defers := D }
def dfrO : Obj := .deferred (some [])
theorem Mem.put {w : World} {l : Nat} {o : Obj} (o' : Obj) (h : Mem W chg ((l, o) :: news) w) : Mem W chg ((l, o') :: news) (w.putObj l o') :=
  h.upd_new .here rfl rfl rfl (by simp [World.putObj]) (fun k _ hk => World.putObj_heap_other hk) (World.putObj_heap_same (lt_of_block (h.newd _ _ (List.mem_cons_self ..)).2))
/-- How the body of a round may be left. -/
def BodyQ2 {X : Type} (W : World) (l : Nat) (ro : Obj) (Dd : Nat × Obj) (U : X → Blks) (tl : Blks) (Iv : X → Prop) (Stp : Code → X → Prop) (Pan : List PanicEntry → X → Prop) : Exit → Act → World → Prop
  | .normal, _, w => ∃ x, Iv x ∧ Mem W [] ((l, ro) :: Dd :: (U x ++ tl)) w
  | .ret, _, w => ∃ x, Stp .ret x ∧ Mem W [] ((l, ro) :: Dd :: (U x ++ tl)) w
  | .exit id, _, w => ∃ x, Stp (.exit id) x ∧ Mem W [] ((l, ro) :: Dd :: (U x ++ tl)) w
  | .panic c, a, w => a.defers = [] ∧ ∃ x, Pan c x ∧ Mem W [] ((l, ro) :: Dd :: (U x ++ tl)) w
  | _, _, _ => False
section
variable {X : Type} {l : Nat} {ro : Obj} {Dd : Nat × Obj} {U : X → Blks} {tl : Blks} {Iv : X → Prop} {Stp : Code → X → Prop} {Pan : List PanicEntry → X → Prop}
theorem Bs7 (x : X) (hx : Iv x) (hp : Pick ((l, ro) :: Dd :: (U x ++ tl)) news) : RunE (BodyQ2 W l ro Dd U tl Iv Stp Pan) n .normal r ds W [] news := fun _ _ s => ⟨x, hx, s.mem.pick hp⟩
end
theorem RunCF.range {α X : Type} {g : Operand} {gf p q id N : Nat} {lb : Array Value} {enc : α → Value} {eb : α → Blks} {itb : Blks} {mis : Int → Value} {S Sp : List α → Prop} {Sq : Int → List α → Prop} {oA : Oper} {body : Code} {fn0 : Func} (hf0 : P.funcs[f]? = some fn0)
    (U : X → Blks) (Iv : List α → X → Prop) (Stp : Code → X → Prop) (Pan : List PanicEntry → X → Prop) (x0 : X) (i0 : Iv [] x0) (rst : Blks) (hn : Pick (U x0 ++ (itb ++ rst)) news)
    (hg : rev r g = some (.func (.func gf) #[] lb)) (he : Enters P gf) (hseq : SeqQ P gf lb (fun x => [enc x]) eb itb mis S Sp Sq N W)
    (hp : Nat.ble (p + 1) n = true) (hq : Nat.ble (q + 1) n = true) (hA : ∀ v, pureV ((p, v) :: r) oA.op = some v) (hAg : oA.guard = none) (hAd : oA.dst = some q) (hAn : notDefer oA = true)
    (hbody : ∀ l D ob pre v x tl, Iv pre x → Sp (pre ++ [v]) → pre.length < N → RunCR (some l) P (BodyQ2 W l ob (D, dfrO) U tl (Iv (pre ++ [v])) Stp Pan) n body ((q, enc v) :: (p, enc v) :: r) [] W [] ((l, ob) :: (D, dfrO) :: (eb v ++ (U x ++ tl))))
    (hdone : ∀ D xs x, S xs → Iv xs x → RunE Q n .normal r ({ target := .collected D, args := #[] } :: ds) W [] ((D, dfrO) :: (U x ++ rst)))
    (hstop : ∀ D c x, Stp c x → RunCF f P Q n c r ({ target := .collected D, args := #[] } :: ds) W [] ((D, dfrO) :: (U x ++ rst)))
    (hpan : ∀ D c x, Pan c x → RunE Q n (.panic c) r ({ target := .collected D, args := #[] } :: ds) W [] ((D, dfrO) :: (U x ++ rst)))
    (hown : ∀ D k xs x, Sq k xs → Iv xs x → RunE Q n (.panic [{ v := mis k, recovered := false }]) r ({ target := .collected D, args := #[] } :: ds) W [] ((D, dfrO) :: (U x ++ rst))) :
    RunCF f P Q n (.rangeFunc g #[p] (.region id #[oA] false) body) r ds W [] news := fun a w s => by
  have hm := s.mem.pick hn
  obtain ⟨rc, hrc⟩ : ∃ rc : LoopState → Option Code → Obj, rc = recO f a.tmps #[p] (.region id #[oA] false) body w.heap.size := ⟨_, rfl⟩
  obtain ⟨W1, hW1⟩ : ∃ W1, (w.alloc dfrO).alloc (rc .ready none) = W1 := ⟨_, rfl⟩
  have hm1 : Mem W [] ((w.heap.size + 1, rc .ready none) :: (w.heap.size, dfrO) :: (U x0 ++ (itb ++ rst))) W1 := by
    have h1 := (hm.alloc dfrO).alloc (rc .ready none)
    rw [hW1] at h1
    simpa using h1
  refine AO6 (l := w.heap.size + 1) (mark := [{ target := .collected w.heap.size, args := #[] }]) (w₁ := W1) (w₂ := W1) (w₃ := W1) (d := { target := .fn (.func gf) lb, args := #[.func (.yield (w.heap.size + 1)) #[] #[]] }) (gf := gf) (args := #[.func (.yield (w.heap.size + 1)) #[] #[]] ++ lb) ?_ ?_ ?_ ?_
  · rw [← hW1, hrc]; exact run_enterLoop_outer _ _ _ _ _
  · simp only [resolve, s.agree.eval hg]
    simp [go_sem]
  · simp [invoke, go_sem, he _ _]
  have hU : ∀ (D : Nat) (ob : Obj) (x : X) (tl : Blks) (w' : World), Mem W [] ((w.heap.size + 1, ob) :: (D, dfrO) :: (U x ++ tl)) w' → Mem W [] ((D, dfrO) :: (U x ++ tl)) w' := fun D ob x tl w' h => h.fewer (List.sublist_cons_self _ _)
  refine (hseq (X := X × LoopState × Option Code) (w.heap.size + 1) (fun y => (w.heap.size + 1, rc y.2.1 y.2.2) :: (w.heap.size, dfrO) :: U y.1) (fun pre y => Iv pre y.1 ∧ y.2 = (.ready, none)) (fun y => ∃ c, Stp c y.1 ∧ y.2 = (.done, some c)) (fun c y => Pan c y.1 ∧ y.2 = (.busy, none)) rst W1 (x0, .ready, none) ?_ ⟨i0, rfl⟩ (by simpa using hm1)).mono ?_
  · rintro pre v ⟨x, st⟩ tl w1 ⟨hI, rfl⟩ hsp hlen hmem0
    have hmem : Mem W [] ((w.heap.size + 1, rc .ready none) :: (w.heap.size, dfrO) :: (eb v ++ (U x ++ tl))) w1 := hmem0.pick (Pick.cnt fun z => by simp only [List.cons_append, List.count_append, List.count_cons]; omega)
    have hl : w1.heap[w.heap.size + 1]? = some (rc .ready none) := (hmem.newd _ _ (List.mem_cons_self ..)).2
    rw [hrc] at hl
    have hy := run_yield (P := P) (args := #[enc v]) hl rfl
    refine ⟨f, _, _, _, hy, BH2 hf0 ?_⟩
    have hsz : p < a.tmps.size := by rw [s.size]; exact Nat.le_of_ble_eq_true hp
    have hsz2 : q < a.tmps.size := by rw [s.size]; exact Nat.le_of_ble_eq_true hq
    have hag : Agree (({ tmps := a.tmps, defers := [] } : Act).put (some p) (enc v)) ((p, enc v) :: r) := Agree.put (a := { tmps := a.tmps, defers := [] }) (fun t u ht => s.agree t u ht) hsz
    have hag2 := hag.put (d := q) (v := enc v) (by simp [Act.put]; exact hsz2)
    refine wpIn_region_lit (l := [oA]) (wpListIn_plain hAg fun K2 hK2 => ?_)
    refine ⟨fun _ _ => trivial, ?_⟩
    rw [Oper.semAt_eq _ _ _ (Ao7 hAn)]
    have hrun := AB1 (P := P) (o := oA) hag (hA (enc v)) w1
    have e2 : (({ tmps := a.tmps, defers := [] } : Act).put (some p) (enc v)) = { tmps := (#[p].zip #[enc v]).foldl (fun t (pv : Nat × Value) => t.setIfInBounds pv.1 pv.2) a.tmps, defers := [] } := by simp [Act.put]
    rw [e2] at hrun
    rw [hrun, Oper.uponIn_value, hAd]
    refine hK2 _ _ ?_
    refine ⟨_, run_beginRound hl rfl, ?_⟩
    rw [← hrc] at hl
    have hm2 := hmem.put (recO f a.tmps #[p] (.region id #[oA] false) body w.heap.size .busy none)
    rw [← hrc] at hm2
    have eb : (Obj.loop { state := .busy, pending := none, fn := f, tmps := a.tmps, params := #[p], assign := .region id #[oA] false, body := body, defers := w.heap.size }) = rc .busy none := by rw [hrc]; rfl
    have hb := hbody (w.heap.size + 1) w.heap.size (rc .busy none) pre v x tl hI hsp hlen _ _ ⟨by simp [Act.put, s.size], hag2, rfl, hm2⟩
    rw [e2] at hb
    rw [eb]
    refine wpIn_mono (Aq4 hb) ?_
    have fin : ∀ (jump : Option Code) (x' : X) (w3 : World), Mem W [] ((w.heap.size + 1, rc .busy none) :: (w.heap.size, dfrO) :: (U x' ++ tl)) w3 →
        (Instr.endRound (w.heap.size + 1) jump).run P w3 = .ok (.bool jump.isNone) (w3.putObj (w.heap.size + 1) (rc (if jump.isNone then .ready else .done) jump)) ∧
        Mem W [] ((w.heap.size + 1, rc (if jump.isNone then .ready else .done) jump) :: (w.heap.size, dfrO) :: (U x' ++ tl)) (w3.putObj (w.heap.size + 1) (rc (if jump.isNone then .ready else .done) jump)) := fun jump x' w3 h3 => by
      have hl3 : w3.heap[w.heap.size + 1]? = some (rc .busy none) := (h3.newd _ _ (List.mem_cons_self ..)).2
      rw [hrc] at hl3
      have h4 := run_endRound (P := P) jump hl3
      refine ⟨by rw [h4, hrc]; rfl, h3.put _⟩
    rintro e a3 w3 hq3
    cases e with
    | normal =>
      obtain ⟨x', hx', h3⟩ := hq3
      obtain ⟨h4, h5⟩ := fin none x' w3 h3
      exact ⟨_, _, h4, (x', .ready, none), h5, .inl ⟨rfl, hx', rfl⟩⟩
    | ret =>
      obtain ⟨x', hx', h3⟩ := hq3
      obtain ⟨h4, h5⟩ := fin (some .ret) x' w3 h3
      exact ⟨_, _, h4, (x', .done, some .ret), h5, .inr (.inl ⟨rfl, .ret, hx', rfl⟩)⟩
    | exit id =>
      obtain ⟨x', hx', h3⟩ := hq3
      obtain ⟨h4, h5⟩ := fin (some (.exit id)) x' w3 h3
      exact ⟨_, _, h4, (x', .done, some (.exit id)), h5, .inr (.inl ⟨rfl, .exit id, hx', rfl⟩)⟩
    | goto t => exact hq3.elim
    | panic c =>
      obtain ⟨hd, x', hx', h3⟩ := hq3
      exact ⟨hd, (x', .busy, none), h3, .inr (.inr ⟨c, rfl, hx', rfl⟩)⟩
    | outgrown => exact hq3.elim
  · rintro e w2 ⟨⟨x, st⟩, hmem, hcase⟩
    have hdf : ∀ {z : Exit} {w' : World}, Mem W [] ((w.heap.size, dfrO) :: (U x ++ rst)) w' → St n r ({ target := .collected w.heap.size, args := #[] } :: ds) W [] ((w.heap.size, dfrO) :: (U x ++ rst)) { a with defers := [{ target := .collected w.heap.size, args := #[] }] ++ a.defers } w' := fun h => ⟨s.size, s.agree, by rw [← s.defers]; rfl, h⟩
    have hl0 : w2.heap[w.heap.size + 1]? = some (rc st.1 st.2) := (hmem.newd _ _ (List.mem_cons_self ..)).2
    rw [hrc] at hl0
    rcases hcase with ⟨v, rfl, ⟨xs, hS, hI, rfl⟩ | ⟨c, hc, rfl⟩⟩ | ⟨c, rfl, hc, rfl⟩ | ⟨k, xs, rfl, hS, hI, rfl⟩
    · exact ⟨none, _, run_endLoop (P := P) hl0 (by simp), hdone _ xs x hS hI _ _ (hdf (z := .normal) (hmem.putNew _))⟩
    · exact ⟨some c, _, run_endLoop (P := P) hl0 (by simp), hstop _ c x hc _ _ (hdf (z := .normal) (hmem.putNew _))⟩
    · exact hpan _ c x hc _ _ (hdf (z := .normal) (hU _ _ _ _ _ hmem))
    · exact hown _ k xs x hS hI _ _ (hdf (z := .normal) (hU _ _ _ _ _ hmem))
end
section
variable {P : Program} {n : Nat} {r : Regs} {W : World} {chg news : Blks} {ty : TypeId} {pos : String} {after : Array Edge} {dst : Option Tmp} {gd : Option (Nat × Bool)}
theorem Az6 {w : World} {T e : TypeId} {k c : Nat} (hT : P.underlying T = some (.slice e)) : (Op.equal T (.slice none k c) (.slice none 0 0)).run P w = .ok true w := by
  have h : ∀ d, (Op.equalIn (d + 1) T (.slice none k c) (.slice none 0 0)).run P w = .ok true w := fun d => by simp [Op.equalIn, run_underlying hT]
  exact h 9999
theorem AV9 {x : Operand} {T yt e : TypeId} {k c : Nat} (hx : rev r x = some (.slice none k c)) (hT : P.underlying T = some (.slice e)) :
    Val P r W chg news { dst, op := .binOp .eql T x (.const (.slice none 0 0)) yt, type := ty, pos, after, guard := gd } (.bool true) :=
  ⟨fun a w ha _ => by
    have h := Az6 (P := P) (w := w) (k := k) (c := c) hT
    simp [execOp, ha.eval hx, BigFrame.eval_const, eqGuard, binOp, h]⟩
end
theorem AN6 {P : Program} {ops : Array Oper} {Q : Exit → Act → World → Prop} {n d : Nat} {r : Regs} {ds : List Deferred} {W : World} {chg news : Blks} {i : Nat} {K : Act → World → Prop} {β : Type} {o : Oper} {f : FuncId} {args : Array Value} {v : β → Value} {U : β → Blks} (A T : Blks) (hne : news = A ++ T) (ho : ops[i]? = some o) (hi : IsCall P r o f args) (hg : guardB ops r o.guard = some true) (hd : o.dst = some d) (hn : Nat.ble (d + 1) n = true)
    (hc : ∀ w, Mem W chg news w → Calls P f args w (News v (fun b => U b ++ []) w)) (h : ∀ b, RunK n K ((d, v b) :: r) ds W chg (A ++ (U b ++ T))) : RunI P ops Q n i K r ds W chg news :=
  RunI.call ho hi hg hc (fun a w e w' s hR => by
    obtain ⟨b, rfl, hm⟩ := hR
    have s2 := s.put (Nat.le_of_ble_eq_true hn) (v b)
    simp only [hd]
    refine h b _ _ ⟨s2.size, s2.agree, s2.defers, (s.mem.trans hm).pick (Pick.cnt fun x => ?_)⟩
    rw [hne]
    simp only [List.append_nil, List.count_append]
    omega)
end Go.Eng
/- The engine: strings that are appended to bytes; addresses that are compared, or seen as none of a type. No program is in sight. -/
namespace Go.Eng
open Go Go.RowKit
section
variable {P : Program} {ops : Array Oper} {Q : Exit → Act → World → Prop} {n : Nat} {r : Regs} {ds : List Deferred} {W : World} {chg news : Blks} {rest : List Oper}
variable {d : Nat} {ty : TypeId} {pos : String} {after : Array Edge} {dst : Option Tmp} {gd : Option (Nat × Bool)}
/-! ### Addresses -/
theorem AQ9 (z : Own) (k : Nat) : cellsL (ownV z k) = [ownV z k] := by cases z <;> rfl
theorem BS8 (z : Own) (k : Nat) : isOne (ownV z k) = true := by cases z <;> rfl
theorem AY5 {v : Value} (hv : isOne v = true) : ∀ {cs : List Value} {o : Nat}, o < cs.length → paste cs o [v] = some (cs.set o v)
  | [], _, h => by simp at h
  | c :: cs, 0, _ => by simp only [paste, pasteN, hv, List.set_cons_zero]
  | c :: cs, o + 1, h => by simp [paste, AY5 hv (cs := cs) (o := o) (by simpa using h)]
/-- A slice of the function's own goes into a block of its own. -/
theorem Aj1 {x y : Operand} {T T0 : TypeId} {b o k : Nat} {g : Bool} {cs cs' : List Value} {z : Own} {news' : Blks} (hx : rev r x = some (.pointer (some ⟨b, o, none⟩))) (hy : rev r y = some (ownV z k))
    (hu : Upd news b (.cells cs.toArray T0 (0, 0)) (.cells cs'.toArray T0 (0, 0)) news') (hT : tyB P T = some (g, 1)) (ho : Nat.blt o cs.length = true) (hp : cs.set o (ownV z k) = cs') :
    Sto P r W chg news { dst, op := .store T x y, type := ty, pos, after, guard := gd } chg news' :=
  Sto.store hx hy hu hT (by rw [AQ9]; rfl) (by rw [AQ9, ← hp]; exact AY5 (BS8 z k) (by simpa using ho))
end
end Go.Eng
/- The engine: iterators' bodies; regions that draw and hand over. No program is in sight. -/
namespace Go.Eng
open Go Go.RowKit
section
variable {f : FuncId} {ro : Option Nat} {P : Program} {ops : Array Oper} {Q : Exit → Act → World → Prop} {n : Nat} {r : Regs} {ds : List Deferred} {W : World} {chg news : Blks} {d fuel : Nat} {listed : Array Bool}
theorem Bb6 {fn : Func} {c : Code} {vs : List Value} {R : Ending → World → Prop} {w : World} (hm : Mem W chg news w) (hf : P.funcs[f]? = some fn) (hb : fn.body = some c) (hn : Nat.ble vs.length fn.ntmps = true)
    (h : RunCR none P (bodyPost P fn R) fn.ntmps c (args0 0 vs) [] W chg news) (m : Nat) : CallsIn (Fr none) m P f vs.toArray w R := by
  have s0 := At5 (Nat.le_of_ble_eq_true hn) (Mem.refl w) (vs := vs)
  exact callsIn_of_wp hf hb trivial (Aq4 (h _ _ ⟨s0.size, s0.agree, s0.defers, hm⟩)) rfl
theorem BF3 {α X : Type} {l : Nat} {encs : α → List Value} {eb : α → Blks} {U : X → Blks} {tl : Blks} {I : List α → X → Prop} {Ix : X → Prop} {Ip : List PanicEntry → X → Prop} {W0 w : World} {pre : List α} {v : α} {N' : X → Blks}
    (hp : ∀ x, Pick (N' x) (U x ++ tl)) (h : YieldAt (Fr none) 8 P l (encs v).toArray w fun e w' => ∃ x', Mem W0 [] (U x' ++ tl) w' ∧ ((e = .returned (.bool true) ∧ I (pre ++ [v]) x') ∨ (e = .returned (.bool false) ∧ Ix x') ∨ (∃ c, e = .panicked c ∧ Ip c x'))) :
    YieldAt (Fr none) 8 P l (encs v).toArray w fun e w' => (∃ b : Bool × X, (b.1 = true ∧ I (pre ++ [v]) b.2 ∨ b.1 = false ∧ Ix b.2) ∧ e = .returned (.bool b.1) ∧ Mem W0 [] (N' b.2) w') ∨ (∃ c : List PanicEntry × X, Ip c.1 c.2 ∧ e = .panicked c.1 ∧ Mem W0 [] (N' c.2) w') := by
  obtain ⟨fn, tmps, as0, bd, h1, h2⟩ := h
  refine ⟨fn, tmps, as0, bd, h1, h2.mono ?_⟩
  rintro e w' ⟨x', hm, ⟨rfl, hi⟩ | ⟨rfl, hi⟩ | ⟨c, rfl, hi⟩⟩
  · exact .inl ⟨(true, x'), .inl ⟨rfl, hi⟩, rfl, hm.pick (hp _)⟩
  · exact .inl ⟨(false, x'), .inr ⟨rfl, hi⟩, rfl, hm.pick (hp _)⟩
  · exact .inr ⟨(c, x'), hi, rfl, hm.pick (hp _)⟩
/-! ### In whatever order, and handing over -/
def RunAF (ro : Option Nat) (P : Program) (ops : Array Oper) (Q : Exit → Act → World → Prop) (n fuel : Nat) (listed : Array Bool) (r : Regs) (ds : List Deferred) (W : World) (chg news : Blks) : Prop :=
  ∀ a w, St n r ds W chg news a w → wpAnyIn (Fr ro) 9 P .any ops Q fuel listed a w
def RunIF (ro : Option Nat) (P : Program) (ops : Array Oper) (Q : Exit → Act → World → Prop) (n i : Nat) (K : Act → World → Prop) (r : Regs) (ds : List Deferred) (W : World) (chg news : Blks) : Prop :=
  ∀ a w, St n r ds W chg news a w → wpOpIn (Fr ro) 9 P ops Q i K a w
theorem RunAF.all {rs : List Nat} (hr : Region.ready .any ops listed = rs) (hne : rs ≠ []) (h : ∀ i ∈ rs, RunIF ro P ops Q n i (wpAnyIn (Fr ro) 9 P .any ops Q fuel (listed.setIfInBounds i true)) r ds W chg news) : RunAF ro P ops Q n (fuel + 1) listed r ds W chg news := fun a w s =>
  ⟨fun h0 => absurd (hr ▸ h0) hne, fun i hi => h i (hr ▸ hi) a w s⟩
theorem RunAF.one {i : Nat} (hr : Region.ready .any ops listed = [i]) (h : RunIF ro P ops Q n i (wpAnyIn (Fr ro) 9 P .any ops Q fuel (listed.setIfInBounds i true)) r ds W chg news) : RunAF ro P ops Q n (fuel + 1) listed r ds W chg news :=
  RunAF.all hr (by simp) (fun j hj => (List.mem_singleton.1 hj) ▸ h)
theorem RunAF.done (hr : Region.ready .any ops listed = []) (h : RunE Q n .normal r ds W chg news) : RunAF ro P ops Q n fuel listed r ds W chg news := fun a w s => by
  cases fuel with
  | zero => exact ⟨hr, h a w s⟩
  | succ m => exact ⟨fun _ => h a w s, fun i hi => by rw [hr] at hi; cases hi⟩
/-! ### Leaving -/
end
end Go.Eng
/- The engine: copy; numbers put together out of bytes. No program is in sight. -/
namespace Go.Eng
open Go Go.RowKit
section
variable {P : Program} {ops : Array Oper} {Q : Exit → Act → World → Prop} {n : Nat} {r : Regs} {ds : List Deferred} {W : World} {chg news : Blks} {rest : List Oper}
variable {d : Nat} {ty : TypeId} {pos : String} {after : Array Edge} {dst : Option Tmp} {gd : Option (Nat × Bool)}
end
end Go.Eng
/- The engine: max of many numbers. -/
namespace Go.Eng
open Go
variable {P : Program} {r : Regs} {W : World} {chg news : Blks}
end Go.Eng
/- The engine: a region that draws its order, all of whose operations (but a forced tail) hand back values or make blocks: whatever the order, the same is known behind it. No program is in sight. -/
namespace Go.Eng
open Go Go.RowKit
/-- An operation of such a region: its register, those that it reads of, those whose outcomes it tells of, what it hands back and the blocks that it makes. -/
structure FRow (O : Type) where
  d : Nat
  deps : List Nat
  D : List Nat
  F : List O → Value
  G : List O → Blks
def upd {O : Type} (x : Nat → O) (i : Nat) (y : O) : Nat → O := fun m => bif Nat.beq m i then y else x m
theorem AS5 {O : Type} (x : Nat → O) (i : Nat) (y : O) : upd x i y i = y := by simp [upd]
theorem BZ1 {O : Type} {x : Nat → O} {i m : Nat} {y : O} (h : m ≠ i) : upd x i y m = x m := by
  unfold upd
  have : Nat.beq m i = false := Bool.eq_false_iff.2 fun e => h (Nat.eq_of_beq_eq_true e)
  rw [this]; rfl
theorem Bt2 {O : Type} {x : Nat → O} {i : Nat} {y : O} {D : List Nat} (h : i ∉ D) : D.map (upd x i y) = D.map x :=
  List.map_congr_left fun m hm => BZ1 (fun e => h (e ▸ hm))
section
variable {O : Type}
def FRow.val (x : Nat → O) (r : FRow O) : Value := r.F (r.D.map x)
def FRow.blk (x : Nat → O) (r : FRow O) : Blks := r.G (r.D.map x)
def rowV (rows : List (FRow O)) (x : Nat → O) (j : Nat) : Nat × Value := match rows[j]? with
  | some r => (r.d, r.val x)
  | none => (0, undef)
def rowB (rows : List (FRow O)) (x : Nat → O) (j : Nat) : Blks := match rows[j]? with
  | some r => r.blk x
  | none => []
/-- What an operation does, whatever else is known: it hands back a value, and makes some blocks. -/
def OpOk (P : Program) (ops : Array Oper) (n : Nat) (W : World) (chg : Blks) (r : Regs) (news : Blks) (i d : Nat) (v : O → Value) (nb : O → Blks) : Prop :=
  (∃ o, ops[i]? = some o ∧ o.dst = some d) ∧ ∀ (Q : Exit → Act → World → Prop) (K : Act → World → Prop) (a : Act) (w : World), a.tmps.size = n → Agree a r → Mem W chg news w → (∀ y w', Mem w [] (nb y) w' → K (a.put (some d) (v y)) w') → wpOp P ops Q i K a w
section
variable {P : Program} {ops : Array Oper} {n : Nat} {W : World} {chg : Blks} {r : Regs} {news : Blks} {i d : Nat}
theorem OpOk.val [Inhabited O] {o : Oper} {v : Value} (ho : ops[i]? = some o) (hv : Val P r W chg news o v) (hg : guardB ops r o.guard = some true) (hd : o.dst = some d) : OpOk (O := O) P ops n W chg r news i d (fun _ => v) (fun _ => []) :=
  ⟨⟨o, ho, hd⟩, fun Q K a w hs ha hm hK => by
    unfold wpOp
    simp only [ho, Af9 ha hg, if_true, Oper.wp, hv.run a w ha hm, Oper.upon_value, hd]
    exact .inl (hK default _ (Mem.refl _))⟩
end
def AllOk (P : Program) (ops : Array Oper) (n : Nat) (W : World) (chg : Blks) (r : Regs) (news : Blks) (rows : List (FRow O)) : Nat → List (FRow O) → Prop
  | _, [] => True
  | i, row :: l => (∀ x : Nat → O, OpOk P ops n W chg (row.deps.map (rowV rows x) ++ r) (row.deps.flatMap (rowB rows x) ++ news) i row.d (fun y => row.F (row.D.map (upd x i y))) (fun y => row.G (row.D.map (upd x i y)))) ∧ AllOk P ops n W chg r news rows (i + 1) l
theorem AllOk.at {P : Program} {ops : Array Oper} {n : Nat} {W : World} {chg : Blks} {r : Regs} {news : Blks} {rows : List (FRow O)} : ∀ {l : List (FRow O)} {i : Nat}, AllOk P ops n W chg r news rows i l → ∀ (j : Nat) (row : FRow O), l[j]? = some row → ∀ x : Nat → O, OpOk P ops n W chg (row.deps.map (rowV rows x) ++ r) (row.deps.flatMap (rowB rows x) ++ news) (i + j) row.d (fun y => row.F (row.D.map (upd x (i + j) y))) (fun y => row.G (row.D.map (upd x (i + j) y)))
  | [], _, _, j, row, h => by simp at h
  | r0 :: l, i, ⟨h1, h2⟩, 0, row, h => by simp at h; subst h; exact h1
  | r0 :: l, i, ⟨h1, h2⟩, j + 1, row, h => by
    have := AllOk.at h2 j row (by simpa using h)
    rw [show i + 1 + j = i + (j + 1) by omega] at this
    exact this
/-! ### What is asked of the region's text -/
def edgeB (ops : Array Oper) (i m : Nat) : Bool := match ops[i]? with
  | some o => o.after.toList.any fun e => Region.binds .any e && Nat.beq e.on m
  | none => false
def ascB : Nat → List Nat → Bool
  | _, [] => true
  | lo, m :: l => Nat.ble lo m && ascB (m + 1) l
theorem Bn2 : ∀ {l : List Nat} {lo hi : Nat}, ascB lo l = true → (∀ m ∈ l, m < hi) → l.Sublist (List.range' lo (hi - lo))
  | [], _, _, _, _ => List.nil_sublist _
  | m :: l, lo, hi, h, hm => by
    simp only [ascB, Bool.and_eq_true] at h
    have h1 : lo ≤ m := Nat.le_of_ble_eq_true h.1
    have h2 := hm m (List.mem_cons_self ..)
    have ih := Bn2 h.2 (fun x hx => hm x (List.mem_cons_of_mem _ hx))
    have e : List.range' lo (hi - lo) = List.range' lo (m - lo) ++ m :: List.range' (m + 1) (hi - (m + 1)) := by
      have e1 : hi - lo = (m - lo) + (hi - m) := by omega
      have e2 : hi - m = (hi - (m + 1)) + 1 := by omega
      rw [e1, ← List.range'_append (s := lo) (m := m - lo) (n := hi - m) (step := 1), e2, List.range'_succ]
      simp only [Nat.one_mul]
      rw [show lo + (m - lo) = m by omega]
    rw [e]
    exact (ih.cons_cons m).trans (List.sublist_append_right _ _)
structure RowOk (ops : Array Oper) (n : Nat) (rows : List (FRow O)) (i : Nat) (row : FRow O) : Prop where
  dn : row.d < n
  asc : ascB 0 row.deps = true
  lt : ∀ m ∈ row.deps, m < i
  edge : ∀ m ∈ row.deps, edgeB ops i m = true ∨ ∃ j ∈ row.deps, edgeB ops i j = true ∧ ∃ r, rows[j]? = some r ∧ m ∈ r.deps
  dD : ∀ m ∈ row.D, m = i ∨ ∃ j ∈ row.deps, ∃ r, rows[j]? = some r ∧ m ∈ r.D
/-! ### The proof -/
def allB (rows : List (FRow O)) (listed : Array Bool) (x : Nat → O) : Blks := (List.range rows.length).flatMap fun j => if listed.getD j false = true then rowB rows x j else []
structure FInv (ops : Array Oper) (rows : List (FRow O)) (n : Nat) (ds : List Deferred) (W : World) (chg : Blks) (r : Regs) (news : Blks) (listed : Array Bool) (x : Nat → O) (a : Act) (w : World) : Prop where
  size : a.tmps.size = n
  defers : a.defers = ds
  agree : Agree a r
  done : ∀ (j : Nat) (row : FRow O), rows[j]? = some row → listed.getD j false = true → a.tmps[row.d]? = some (row.val x)
  mem : Mem W chg (allB rows listed x ++ news) w
  tail : ∀ j, rows.length ≤ j → listed.getD j false = false
  lsize : listed.size = ops.size
  closed : Closed ops listed
theorem BT6 {listed : Array Bool} {j : Nat} (h : j < listed.size) : listed.getD j true = listed.getD j false := by simp [h]
theorem BH3 {q r : Regs} {t : Nat} {v : Value} (h : rget (q ++ r) t = some v) : rget q t = some v ∨ rget r t = some v := by
  induction q with
  | nil => exact .inr h
  | cons e q ih =>
    obtain ⟨k, u⟩ := e
    simp only [List.cons_append, rget] at h ⊢
    split at h
    · exact .inl h
    · exact ih h
theorem Bj2 : ∀ {q : Regs} {t : Nat} {v : Value}, rget q t = some v → (t, v) ∈ q
  | (k, u) :: q, t, v, h => by
    simp only [rget] at h
    split at h
    · rename_i hb
      have := Nat.eq_of_beq_eq_true hb
      subst this
      cases h
      exact List.mem_cons_self ..
    · exact List.mem_cons_of_mem _ (Bj2 h)
theorem Ba4 {g g' : Nat → Blks} {i : Nat} : ∀ {l : List Nat}, l.Nodup → i ∈ l → (∀ j ∈ l, j ≠ i → g' j = g j) → g i = [] → (l.flatMap g').Perm (g' i ++ l.flatMap g)
  | j :: l, hn, hi, he, h0 => by
    rw [List.nodup_cons] at hn
    rw [List.flatMap_cons, List.flatMap_cons]
    by_cases hj : j = i
    · subst hj
      have e : l.flatMap g' = l.flatMap g := by
        have : l.map g' = l.map g := List.map_congr_left fun m hm => he m (List.mem_cons_of_mem _ hm) (fun e => hn.1 (e ▸ hm))
        rw [List.flatMap_def, List.flatMap_def, this]
      rw [e, h0, List.nil_append]
    · have hi2 : i ∈ l := by
        rcases List.mem_cons.1 hi with e | h
        · exact absurd e.symm hj
        · exact h
      have ih := Ba4 hn.2 hi2 (fun m hm => he m (List.mem_cons_of_mem _ hm)) h0
      rw [he j (List.mem_cons_self ..) hj]
      exact (ih.append_left (g j)).trans (List.perm_append_comm_assoc _ _ _)
theorem BK6 {g : Nat → Blks} {l m : List Nat} (h : l.Sublist m) : (l.flatMap g).Sublist (m.flatMap g) := by
  induction h with
  | slnil => exact List.Sublist.refl _
  | cons a _ ih => rw [List.flatMap_cons]; exact ih.trans (List.sublist_append_right _ _)
  | cons_cons a _ ih => rw [List.flatMap_cons, List.flatMap_cons]; exact ih.append_left _
section
variable {P : Program} {ops : Array Oper} {n : Nat} {W : World} {chg : Blks} {r : Regs} {news : Blks} {ds : List Deferred} {rows : List (FRow O)} {listed : Array Bool} {x : Nat → O} {a : Act} {w : World}
theorem AE3 {i m : Nat} {o : Oper} (h : edgeB ops i m = true) (ho : ops[i]? = some o) : ∃ e ∈ o.after, Region.binds .any e = true ∧ e.on = m := by
  unfold edgeB at h
  rw [ho] at h
  obtain ⟨e, he, h2⟩ := List.any_eq_true.1 h
  simp only [Bool.and_eq_true] at h2
  exact ⟨e, Array.mem_def.2 he, h2.1, by simpa using h2.2⟩
theorem Bb0 (hrow : ∀ (j : Nat) (row : FRow O), rows[j]? = some row → RowOk ops n rows j row) (hlen : rows.length ≤ ops.size) (hc : Closed ops listed) : ∀ (j : Nat) (row : FRow O), rows[j]? = some row → listed.getD j false = true → ∀ m ∈ row.deps, listed.getD m false = true := by
  intro j
  induction j using Nat.strongRecOn with
  | _ j ih =>
    intro row hj hl m hm
    have hR := hrow j row hj
    have hjl := (List.getElem?_eq_some_iff.1 hj).1
    obtain ⟨o, ho⟩ : ∃ o, ops[j]? = some o := ⟨_, Array.getElem?_eq_getElem (by omega)⟩
    rcases hR.edge m hm with h1 | ⟨j', hj', h1, r', hr', hm'⟩
    · obtain ⟨e, he, hb, rfl⟩ := AE3 h1 ho
      exact hc j o ho hl e he hb
    · obtain ⟨e, he, hb, rfl⟩ := AE3 h1 ho
      exact ih e.on (hR.lt _ hj') r' hr' (hc j o ho hl e he hb) m hm'
/-- What is told of a done operation, tells of done ones only. -/
theorem Cd3 (hrow : ∀ (j : Nat) (row : FRow O), rows[j]? = some row → RowOk ops n rows j row) (hlen : rows.length ≤ ops.size) (hc : Closed ops listed) : ∀ (j : Nat) (row : FRow O), rows[j]? = some row → listed.getD j false = true → ∀ m ∈ row.D, listed.getD m false = true := by
  intro j
  induction j using Nat.strongRecOn with
  | _ j ih =>
    intro row hj hl m hm
    have hR := hrow j row hj
    rcases hR.dD m hm with rfl | ⟨j', hj', r', hr', hm'⟩
    · exact hl
    · exact ih j' (hR.lt _ hj') r' hr' (Bb0 hrow hlen hc j row hj hl j' hj') m hm'
theorem FInv.step (hrow : ∀ (j : Nat) (row : FRow O), rows[j]? = some row → RowOk ops n rows j row) (hdd : ∀ (j j2 : Nat) (r r2 : FRow O), rows[j]? = some r → rows[j2]? = some r2 → j ≠ j2 → r.d ≠ r2.d) (hlen : rows.length ≤ ops.size)
    (hr : ∀ t v, rget r t = some v → ∀ row ∈ rows, row.d ≠ t) (hok : AllOk P ops n W chg r news rows 0 rows) (h : FInv ops rows n ds W chg r news listed x a w) {i : Nat} (hi : i < rows.length) (hrd : i ∈ Region.ready .any ops listed) {Q : Exit → Act → World → Prop} {K : Act → World → Prop}
    (hK : ∀ x' a' w', FInv ops rows n ds W chg r news (listed.setIfInBounds i true) x' a' w' → K a' w') : wpOp P ops Q i K a w := by
  obtain ⟨row, hri⟩ : ∃ row, rows[i]? = some row := ⟨_, List.getElem?_eq_getElem hi⟩
  have hR := hrow i row hri
  obtain ⟨hun, o, ho, hall⟩ := mem_ready.1 hrd
  have hsz : i < listed.size := by rw [h.lsize]; omega
  have hun' : listed.getD i false = false := by rw [← BT6 hsz]; exact hun
  have hdep : ∀ m ∈ row.deps, listed.getD m false = true := fun m hm => by
    rcases hR.edge m hm with h1 | ⟨j', hj', h1, r', hr', hm'⟩
    · obtain ⟨e, he, hb, rfl⟩ := AE3 h1 ho
      exact hall e he hb
    · obtain ⟨e, he, hb, rfl⟩ := AE3 h1 ho
      exact Bb0 hrow hlen h.closed e.on r' hr' (hall e he hb) m hm'
  have hOk := hok.at i row hri x
  rw [Nat.zero_add] at hOk
  obtain ⟨⟨o', ho', hod⟩, hrun⟩ := hOk
  have hag : Agree a (row.deps.map (rowV rows x) ++ r) := fun t v ht => by
    rcases BH3 ht with h1 | h1
    · obtain ⟨j, hj, he⟩ := List.mem_map.1 (Bj2 h1)
      obtain ⟨rj, hrj⟩ : ∃ rj, rows[j]? = some rj := ⟨_, List.getElem?_eq_getElem (by have := hR.lt j hj; omega)⟩
      have e1 : rowV rows x j = (rj.d, rj.val x) := by unfold rowV; rw [hrj]
      rw [e1] at he
      cases he
      exact h.done j rj hrj (hdep j hj)
    · exact h.agree t v h1
  have hsub : (row.deps.flatMap (rowB rows x)).Sublist (allB rows listed x) := by
    have h1 := Bn2 (hi := rows.length) hR.asc (fun m hm => by have := hR.lt m hm; omega)
    have h2 : row.deps.Sublist (List.range rows.length) := by rw [List.range_eq_range']; simpa using h1
    have e : row.deps.flatMap (rowB rows x) = row.deps.flatMap fun j => if listed.getD j false = true then rowB rows x j else [] := by
      have : row.deps.map (rowB rows x) = row.deps.map fun j => if listed.getD j false = true then rowB rows x j else [] := List.map_congr_left fun m hm => by rw [if_pos (hdep m hm)]
      rw [List.flatMap_def, List.flatMap_def, this]
    rw [e]
    exact BK6 h2
  have hmem : Mem W chg (row.deps.flatMap (rowB rows x) ++ news) w := h.mem.fewer (hsub.append_right news)
  refine hrun Q K a w h.size hag hmem fun y w' hw' => ?_
  have hnotD : ∀ (j : Nat) (rj : FRow O), rows[j]? = some rj → listed.getD j false = true → i ∉ rj.D := fun j rj hj hl hm => by
    have := Cd3 hrow hlen h.closed j rj hj hl i hm
    rw [hun'] at this
    cases this
  have hclosed := h.closed.step hrd
  have hdn : row.d < a.tmps.size := by rw [h.size]; exact hR.dn
  refine hK (upd x i y) _ _ ⟨by simp [Act.put, h.size], h.defers, fun t v ht => ?_, fun j rj hj hl => ?_, ?_, fun j hj => ?_, by simp [h.lsize], hclosed⟩
  · have hne := hr t v ht row (List.mem_of_getElem? hri)
    have := h.agree t v ht
    simp [Act.put, Array.getElem?_setIfInBounds_ne hne, this]
  · by_cases hji : j = i
    · subst hji
      rw [hri] at hj
      cases hj
      simp [Act.put, hdn, FRow.val]
    · rw [getD_set_ne false (Ne.symm hji)] at hl
      have hd2 := hdd i j row rj hri hj (Ne.symm hji)
      have h1 := h.done j rj hj hl
      simp only [Act.put]
      rw [Array.getElem?_setIfInBounds_ne hd2, h1]
      unfold FRow.val
      rw [Bt2 (hnotD j rj hj hl)]
  · have h1 := h.mem.trans hw'
    refine h1.perm ?_
    rw [← List.append_assoc]
    refine List.Perm.append_right news (List.Perm.symm ?_)
    have e1 : row.G (row.D.map (upd x i y)) = (fun j => if (listed.setIfInBounds i true).getD j false = true then rowB rows (upd x i y) j else []) i := by
      have e2 : (listed.setIfInBounds i true).getD i false = true := by simp [hsz]
      show _ = if (listed.setIfInBounds i true).getD i false = true then rowB rows (upd x i y) i else []
      rw [if_pos e2]
      unfold rowB
      rw [hri]
      rfl
    show (allB rows (listed.setIfInBounds i true) (upd x i y)).Perm (row.G (row.D.map (upd x i y)) ++ allB rows listed x)
    rw [e1]
    unfold allB
    refine Ba4 List.nodup_range (List.mem_range.2 hi) (fun j hj hne => ?_) (by show (if listed.getD i false = true then rowB rows x i else []) = []; rw [hun']; rfl)
    rw [getD_set_ne false (Ne.symm hne)]
    cases hl : listed.getD j false with
    | false => rfl
    | true =>
      rw [if_pos rfl, if_pos rfl]
      unfold rowB
      cases hj2 : rows[j]? with
      | none => rfl
      | some rj =>
        show rj.G (rj.D.map (upd x i y)) = rj.G (rj.D.map x)
        rw [Bt2 (hnotD j rj hj2 hl)]
  · rw [getD_set_ne false (by omega)]
    exact h.tail j hj
theorem AllOk.nil {P : Program} {ops : Array Oper} {n : Nat} {W : World} {chg : Blks} {r : Regs} {news : Blks} {rows : List (FRow O)} {i : Nat} : AllOk P ops n W chg r news rows i [] := trivial
theorem AllOk.cons {P : Program} {ops : Array Oper} {n : Nat} {W : World} {chg : Blks} {r : Regs} {news : Blks} {rows : List (FRow O)} {i : Nat} {row : FRow O} {l : List (FRow O)} (h : ∀ x : Nat → O, OpOk P ops n W chg (row.deps.map (rowV rows x) ++ r) (row.deps.flatMap (rowB rows x) ++ news) i row.d (fun y => row.F (row.D.map (upd x i y))) (fun y => row.G (row.D.map (upd x i y))))
    (hl : AllOk P ops n W chg r news rows (i + 1) l) : AllOk P ops n W chg r news rows i (row :: l) := ⟨h, hl⟩
end
end
end Go.Eng
/- Straight lines in one step. -/
namespace Go.Eng
open Go
/-- Goes on as long as nothing must be said: the rest of the proof is about what is left. -/
theorem st {p q : Prop} (k : q) (h : q → p := by intro k; (repeat first | refine Go.Eng.vp rfl rfl rfl rfl ?_ | refine Go.Eng.RunL.nil ?_ | refine Go.Eng.RunE.next ?_ | refine Go.Eng.RunC.seq ?_ | refine Go.Eng.RunC.region ?_ | refine Go.Eng.RunC.skip ?_ | refine Go.Eng.RunC.block ?_ | refine Go.Eng.Ad0 ?_); exact k) : p := h k
theorem sv {p q : Prop} (k : q) (h : q → p := by intro k; (repeat refine Go.Eng.vp rfl rfl rfl rfl ?_); exact k) : p := h k
section
variable {P : Program} {ops : Array Oper} {Q : Exit → Act → World → Prop} {n : Nat} {r : Regs} {ds : List Deferred} {W : World} {chg news : Blks} {rest : List Oper} {d : Nat}
/-- One operation, and on. -/
theorem lv {o : Oper} {v : Value} {q : Prop} (hv : Val P r W chg news o v) (k : q) (hg : guardB ops r o.guard = some true := by rfl) (hd : o.dst = some d := by rfl) (hn : Nat.ble (d + 1) n = true := by rfl)
    (h : q → RunL P ops Q n rest ((d, v) :: r) ds W chg news := by intro k; (repeat first | refine Go.Eng.vp rfl rfl rfl rfl ?_ | refine Go.Eng.RunL.nil ?_ | refine Go.Eng.RunE.next ?_ | refine Go.Eng.RunC.seq ?_ | refine Go.Eng.RunC.region ?_ | refine Go.Eng.RunC.skip ?_ | refine Go.Eng.RunC.block ?_ | refine Go.Eng.Ad0 ?_); exact k) :
    RunL P ops Q n (o :: rest) r ds W chg news := Aa1 hv hg hd hn (h k)
/-- Two ways, what is known there in few words. -/
theorem cn {c : Operand} {x y : Code} {t : Bool} {A B : Prop} (hc : rev r c = some (.bool t)) (ht : A → RunC P Q n x r ds W chg news) (hf : B → RunC P Q n y r ds W chg news)
    (ha : t = true → A := by intro h; (try simp only [Go.Eng.nH] at h); exact h) (hb : t = false → B := by intro h; (try simp only [Go.Eng.nH] at h); exact h) : RunC P Q n (.cond c x y) r ds W chg news := RunC.cond hc (fun h => ht (ha h)) fun h => hf (hb h)
end
end Go.Eng
namespace Go.Eng
open Go
class Fld (P : Program) (T : TypeId) (i : Nat) (off : outParam Nat) : Prop where
  h : fieldB P T i = some off
class Tyc (P : Program) (T : TypeId) (agg : outParam Bool) (sz : outParam Nat) : Prop where
  h : tyB P T = some (agg, sz)
class Slc (P : Program) (T : TypeId) (e : outParam TypeId) (sz : outParam Nat) : Prop where
  h : slB P T = some (e, sz)
theorem zF {P : Program} {r : Regs} {ty : TypeId} {pos : String} {after : Array Edge} {f : FuncId} {xs : List Operand} {vs : List Value} {ats : Array TypeId} {dst : Option Tmp} {gd : Option (Nat × Bool)} (hx : revs r xs = some vs) (he : Enters P f) :
    IsCall P r { dst, op := .call { callee := .value (.func f), args := xs.toArray, argTypes := ats }, type := ty, pos, after, guard := gd } f vs.toArray := Ab7 hx he
theorem zS {q r : Regs} (t : Nat) {v : Value} (h : rget r t = some v) (hs : Sub q r) : Sub ((t, v) :: q) r := Sub.cons h hs
theorem zE {q r : Regs} (t : Nat) {u v : Value} (h : rget r t = some u) (he : u = v) (hs : Sub q r) : Sub ((t, v) :: q) r := Ad4 h he hs
theorem zs {α : Type} {a b : α} {G : Prop} (g : a = b) (h : a = b → G := by intro g; refine Go.Eng.Ac2 (Go.Eng.Sub.cons rfl ?_) (List.Sublist.refl _); repeat first | exact Go.Eng.Ab5 _ | refine Go.Eng.Ad8 rfl (by rw [g]) ?_ | refine Go.Eng.Sub.skip rfl ?_) : G := h g
section
variable {P : Program} {ops : Array Oper} {Q : Exit → Act → World → Prop} {n : Nat} {r : Regs} {ds : List Deferred} {W : World} {chg news : Blks} {rest : List Oper} {d : Nat}
theorem zv {k fuel : Nat} {listed : Array Bool} {chg0 news0 : Blks} (i : Nat) {o : Oper} {v : Value} (ho : ops[i]? = some o) (hv : Val P r W chg0 news0 o v)
    (h : RunA P ops Q k (fun c => c = chg0) news0 n fuel (listed.setIfInBounds i true) ((d, v) :: r) ds W chg news) (hg : guardB ops r o.guard = some true := by rfl) (hd : o.dst = some d := by rfl) (hn : Nat.ble (d + 1) n = true := by rfl)
    (hs : Pick news0 news := by repeat first | exact Go.Eng.Pick.nil | refine Go.Eng.Pick.cons (Go.Eng.Take.here) rfl ?_ | refine Go.Eng.Pick.cons (.there .here) rfl ?_ | refine Go.Eng.Pick.cons (.there (.there .here)) rfl ?_ | refine Go.Eng.Pick.cons (.there (.there (.there .here))) rfl ?_ | refine Go.Eng.Pick.cons (.there (.there (.there (.there .here)))) rfl ?_ | refine Go.Eng.Pick.cons (.there (.there (.there (.there (.there .here))))) rfl ?_ | refine Go.Eng.Pick.cons (.there (.there (.there (.there (.there (.there .here)))))) rfl ?_)
    (hc : chg = chg0 := by rfl) (hQ : ∀ c a w, Q (.panic c) (a.put o.dst v) w → Q (.panic c) a w := by exact fun _ _ _ h => h) (hf : freeB ops k i = true := by kernel_rfl) (hr : readyB ops listed i = true := by kernel_rfl) :
    RunA P ops Q k (fun c => c = chg0) news0 n (fuel + 1) listed r ds W chg news := va i ho hv hg hd hn hs hc h hQ hf hr
theorem zw {k fuel : Nat} {listed : Array Bool} {chg0 news0 : Blks} (i : Nat) {o : Oper} {v : Value} (h : RunA P ops Q k (fun c => c = chg0) news0 n fuel (listed.setIfInBounds i true) ((d, v) :: r) ds W chg news) (ho : ops[i]? = some o := by rfl) (hv : Val P r W chg0 news0 o v := by first | exact Go.Eng.Aa5 rfl | exact Go.Eng.Val.fieldAddr rfl Go.Eng.Fld.h | exact Go.Eng.Ag7 rfl Go.Eng.Slc.h | exact Go.Eng.Aa3 rfl (.head _) Go.Eng.Tyc.h rfl | exact Go.Eng.Ac4 rfl (.head _) Go.Eng.Tyc.h rfl | exact Go.Eng.Aa3 rfl (.tail _ (.head _)) Go.Eng.Tyc.h rfl | exact Go.Eng.Ac4 rfl (.tail _ (.head _)) Go.Eng.Tyc.h rfl | exact Go.Eng.Aa3 rfl (.tail _ (.tail _ (.head _))) Go.Eng.Tyc.h rfl | exact Go.Eng.Ac4 rfl (.tail _ (.tail _ (.head _))) Go.Eng.Tyc.h rfl | exact Go.Eng.Aa3 rfl (.tail _ (.tail _ (.tail _ (.head _)))) Go.Eng.Tyc.h rfl | exact Go.Eng.Ac4 rfl (.tail _ (.tail _ (.tail _ (.head _)))) Go.Eng.Tyc.h rfl | exact Go.Eng.Aa3 rfl (.tail _ (.tail _ (.tail _ (.tail _ (.head _))))) Go.Eng.Tyc.h rfl | exact Go.Eng.Ac4 rfl (.tail _ (.tail _ (.tail _ (.tail _ (.head _))))) Go.Eng.Tyc.h rfl | exact Go.Eng.Aa3 rfl (.tail _ (.tail _ (.tail _ (.tail _ (.tail _ (.head _)))))) Go.Eng.Tyc.h rfl | exact Go.Eng.Ac4 rfl (.tail _ (.tail _ (.tail _ (.tail _ (.tail _ (.head _)))))) Go.Eng.Tyc.h rfl) (hg : guardB ops r o.guard = some true := by rfl) (hd : o.dst = some d := by rfl) (hn : Nat.ble (d + 1) n = true := by rfl)
    (hs : Pick news0 news := by repeat first | exact Go.Eng.Pick.nil | refine Go.Eng.Pick.cons (Go.Eng.Take.here) rfl ?_ | refine Go.Eng.Pick.cons (.there .here) rfl ?_ | refine Go.Eng.Pick.cons (.there (.there .here)) rfl ?_ | refine Go.Eng.Pick.cons (.there (.there (.there .here))) rfl ?_ | refine Go.Eng.Pick.cons (.there (.there (.there (.there .here)))) rfl ?_ | refine Go.Eng.Pick.cons (.there (.there (.there (.there (.there .here))))) rfl ?_ | refine Go.Eng.Pick.cons (.there (.there (.there (.there (.there (.there .here)))))) rfl ?_)
    (hc : chg = chg0 := by rfl) (hQ : ∀ c a w, Q (.panic c) (a.put o.dst v) w → Q (.panic c) a w := by exact fun _ _ _ h => h) (hf : freeB ops k i = true := by kernel_rfl) (hr : readyB ops listed i = true := by kernel_rfl) :
    RunA P ops Q k (fun c => c = chg0) news0 n (fuel + 1) listed r ds W chg news := va i ho hv hg hd hn hs hc h hQ hf hr
theorem zp {fuel : Nat} {listed : Array Bool} (i : Nat) {o : Oper} {v : Value} (h : RunB P ops Q n fuel (listed.setIfInBounds i true) ((d, v) :: r) ds W chg news) (ho : ops[i]? = some o := by rfl) (hv : Val P r W chg news o v := by first | exact Go.Eng.Aa5 rfl | exact Go.Eng.Val.fieldAddr rfl Go.Eng.Fld.h | exact Go.Eng.Ag7 rfl Go.Eng.Slc.h | exact Go.Eng.Aa3 rfl (.head _) Go.Eng.Tyc.h rfl | exact Go.Eng.Ac4 rfl (.head _) Go.Eng.Tyc.h rfl | exact Go.Eng.Aa3 rfl (.tail _ (.head _)) Go.Eng.Tyc.h rfl | exact Go.Eng.Ac4 rfl (.tail _ (.head _)) Go.Eng.Tyc.h rfl | exact Go.Eng.Aa3 rfl (.tail _ (.tail _ (.head _))) Go.Eng.Tyc.h rfl | exact Go.Eng.Ac4 rfl (.tail _ (.tail _ (.head _))) Go.Eng.Tyc.h rfl | exact Go.Eng.Aa3 rfl (.tail _ (.tail _ (.tail _ (.head _)))) Go.Eng.Tyc.h rfl | exact Go.Eng.Ac4 rfl (.tail _ (.tail _ (.tail _ (.head _)))) Go.Eng.Tyc.h rfl | exact Go.Eng.Aa3 rfl (.tail _ (.tail _ (.tail _ (.tail _ (.head _))))) Go.Eng.Tyc.h rfl | exact Go.Eng.Ac4 rfl (.tail _ (.tail _ (.tail _ (.tail _ (.head _))))) Go.Eng.Tyc.h rfl | exact Go.Eng.Aa3 rfl (.tail _ (.tail _ (.tail _ (.tail _ (.tail _ (.head _)))))) Go.Eng.Tyc.h rfl | exact Go.Eng.Ac4 rfl (.tail _ (.tail _ (.tail _ (.tail _ (.tail _ (.head _)))))) Go.Eng.Tyc.h rfl) (hg : guardB ops r o.guard = some true := by rfl) (hd : o.dst = some d := by rfl) (hn : Nat.ble (d + 1) n = true := by rfl) (hr : Region.ready .any ops listed = [i] := by kernel_rfl) :
    RunB P ops Q n (fuel + 1) listed r ds W chg news := RunB.one hr (Ac5 ho hv hg hd hn (Ab1 h))
theorem zN {k fuel : Nat} {listed : Array Bool} {cp : Blks → Prop} {news0 : Blks} (i : Nat) {o : Oper} (h : RunA P ops Q k cp news0 n fuel (listed.setIfInBounds i true) ((d, undef) :: r) ds W chg news) (ho : ops[i]? = some o := by rfl) (hf : freeB ops k i = true := by kernel_rfl) (hr : readyB ops listed i = true := by kernel_rfl)
    (hg : guardB ops r o.guard = some false := by rfl) (hd : o.dst = some d := by rfl) (hn : Nat.ble (d + 1) n = true := by rfl) (hQ : ∀ c a w, Q (.panic c) (a.put o.dst undef) w → Q (.panic c) a w := by exact fun _ _ _ h => h)
    (hs : Pick news0 news := by repeat first | exact Go.Eng.Pick.nil | refine Go.Eng.Pick.cons (Go.Eng.Take.here) rfl ?_ | refine Go.Eng.Pick.cons (.there .here) rfl ?_ | refine Go.Eng.Pick.cons (.there (.there .here)) rfl ?_ | refine Go.Eng.Pick.cons (.there (.there (.there .here))) rfl ?_ | refine Go.Eng.Pick.cons (.there (.there (.there (.there .here)))) rfl ?_ | refine Go.Eng.Pick.cons (.there (.there (.there (.there (.there .here))))) rfl ?_)
    (hc : cp chg := by rfl) : RunA P ops Q k cp news0 n (fuel + 1) listed r ds W chg news := Ae0 ho hf hr hg hd hn hQ hs hc h
theorem zA {k fuel : Nat} {listed : Array Bool} {cp : Blks → Prop} {news0 : Blks} (i : Nat) (h : RunI P ops Q n i (NextA P ops Q k W cp news0 fuel (listed.setIfInBounds i true)) r ds W chg news) (hr : Region.ready .any ops listed = [i] := by kernel_rfl) (hd : doneB k listed = false := by kernel_rfl) :
    RunA P ops Q k cp news0 n (fuel + 1) listed r ds W chg news := RunA.one hr hd h
theorem zt {k fuel : Nat} {listed : Array Bool} {cp : Blks → Prop} {news0 : Blks} (h : RunB P ops Q n (fuel + 1) listed r ds W chg news) (hd : doneB k listed = true := by kernel_rfl) : RunA P ops Q k cp news0 n (fuel + 1) listed r ds W chg news := Af4 hd h
theorem zB {fuel : Nat} {listed : Array Bool} (i : Nat) (h : RunI P ops Q n i (wpAny P .any ops Q fuel (listed.setIfInBounds i true)) r ds W chg news) (hr : Region.ready .any ops listed = [i] := by kernel_rfl) : RunB P ops Q n (fuel + 1) listed r ds W chg news := RunB.one hr h
theorem zd {fuel : Nat} {listed : Array Bool} (h : RunE Q n .normal r ds W chg news) (hr : Region.ready .any ops listed = [] := by kernel_rfl) : RunB P ops Q n fuel listed r ds W chg news := RunB.done hr h
theorem zo {fuel : Nat} {listed : Array Bool} (i : Nat) {o : Oper} {v : Value} (ho : ops[i]? = some o) (hv : Val P r W chg news o v) (h : RunB P ops Q n fuel (listed.setIfInBounds i true) ((d, v) :: r) ds W chg news) (hg : guardB ops r o.guard = some true := by rfl) (hd : o.dst = some d := by rfl) (hn : Nat.ble (d + 1) n = true := by rfl) (hr : Region.ready .any ops listed = [i] := by kernel_rfl) :
    RunB P ops Q n (fuel + 1) listed r ds W chg news := RunB.one hr (Ac5 ho hv hg hd hn (Ab1 h))
theorem zq {fuel : Nat} {listed : Array Bool} (i : Nat) {o : Oper} {f : FuncId} {args : Array Value} {v : Value} (ho : ops[i]? = some o) (hi : IsCall P r o f args) (hc : ∀ w, Mem W chg news w → Calls P f args w (Pure v w)) (h : RunB P ops Q n fuel (listed.setIfInBounds i true) ((d, v) :: r) ds W chg news) (hg : guardB ops r o.guard = some true := by rfl) (hd : o.dst = some d := by rfl) (hn : Nat.ble (d + 1) n = true := by rfl) (hr : Region.ready .any ops listed = [i] := by kernel_rfl) :
    RunB P ops Q n (fuel + 1) listed r ds W chg news := RunB.one hr (Ab4 ho hi hg hd hn hc (Ab1 h))
/-- A call that changes nothing, and on. -/
theorem zc {o : Oper} {f : FuncId} {args : Array Value} {v : Value} {q : Prop} (hi : IsCall P r o f args) (hc : ∀ w, Mem W chg news w → Calls P f args w (Pure v w)) (k : q) (hg : guardB ops r o.guard = some true := by rfl) (hd : o.dst = some d := by rfl) (hn : Nat.ble (d + 1) n = true := by rfl)
    (h : q → RunL P ops Q n rest ((d, v) :: r) ds W chg news := by intro k; (repeat first | refine Go.Eng.vp rfl rfl rfl rfl ?_ | with_reducible refine Go.Eng.RunL.nil ?_ | with_reducible refine Go.Eng.RunE.next ?_ | with_reducible refine Go.Eng.RunC.seq ?_ | with_reducible refine Go.Eng.RunC.region ?_ | with_reducible refine Go.Eng.RunC.skip ?_ | with_reducible refine Go.Eng.RunC.block ?_ | with_reducible refine Go.Eng.Ad0 ?_ | with_reducible refine Go.Eng.RunC.ret ?_ | with_reducible refine Go.Eng.Af1 ?_ | with_reducible refine Go.Eng.Ad6 ?_ | with_reducible refine Go.Eng.Ac0 ?_ | refine Go.Eng.Ac6 rfl rfl rfl ?_ | refine Go.Eng.Aa1 (Go.Eng.Val.fieldAddr rfl Go.Eng.Fld.h) rfl rfl rfl ?_ | refine Go.Eng.Aa1 (Go.Eng.Ag7 rfl Go.Eng.Slc.h) rfl rfl rfl ?_ | refine Go.Eng.Aa1 (Go.Eng.Aa3 rfl (.head _) Go.Eng.Tyc.h rfl) rfl rfl rfl ?_ | refine Go.Eng.Aa1 (Go.Eng.Ac4 rfl (.head _) Go.Eng.Tyc.h rfl) rfl rfl rfl ?_ | refine Go.Eng.Aa1 (Go.Eng.Aa3 rfl (.tail _ (.head _)) Go.Eng.Tyc.h rfl) rfl rfl rfl ?_ | refine Go.Eng.Aa1 (Go.Eng.Ac4 rfl (.tail _ (.head _)) Go.Eng.Tyc.h rfl) rfl rfl rfl ?_ | refine Go.Eng.Aa1 (Go.Eng.Aa3 rfl (.tail _ (.tail _ (.head _))) Go.Eng.Tyc.h rfl) rfl rfl rfl ?_ | refine Go.Eng.Aa1 (Go.Eng.Ac4 rfl (.tail _ (.tail _ (.head _))) Go.Eng.Tyc.h rfl) rfl rfl rfl ?_ | refine Go.Eng.Aa1 (Go.Eng.Aa3 rfl (.tail _ (.tail _ (.tail _ (.head _)))) Go.Eng.Tyc.h rfl) rfl rfl rfl ?_ | refine Go.Eng.Aa1 (Go.Eng.Ac4 rfl (.tail _ (.tail _ (.tail _ (.head _)))) Go.Eng.Tyc.h rfl) rfl rfl rfl ?_ | refine Go.Eng.Aa1 (Go.Eng.Aa3 rfl (.tail _ (.tail _ (.tail _ (.tail _ (.head _))))) Go.Eng.Tyc.h rfl) rfl rfl rfl ?_ | refine Go.Eng.Aa1 (Go.Eng.Ac4 rfl (.tail _ (.tail _ (.tail _ (.tail _ (.head _))))) Go.Eng.Tyc.h rfl) rfl rfl rfl ?_ | refine Go.Eng.Aa1 (Go.Eng.Aa3 rfl (.tail _ (.tail _ (.tail _ (.tail _ (.tail _ (.head _)))))) Go.Eng.Tyc.h rfl) rfl rfl rfl ?_ | refine Go.Eng.Aa1 (Go.Eng.Ac4 rfl (.tail _ (.tail _ (.tail _ (.tail _ (.tail _ (.head _)))))) Go.Eng.Tyc.h rfl) rfl rfl rfl ?_); exact k) : RunL P ops Q n (o :: rest) r ds W chg news := Ab3 hi hg hd hn hc (h k)
/-- One operation, and on, to the end of a function too. -/
theorem lu {o : Oper} {v : Value} {q : Prop} (hv : Val P r W chg news o v) (k : q) (hg : guardB ops r o.guard = some true := by rfl) (hd : o.dst = some d := by rfl) (hn : Nat.ble (d + 1) n = true := by rfl)
    (h : q → RunL P ops Q n rest ((d, v) :: r) ds W chg news := by intro k; (repeat first | refine Go.Eng.vp rfl rfl rfl rfl ?_ | with_reducible refine Go.Eng.RunL.nil ?_ | with_reducible refine Go.Eng.RunE.next ?_ | with_reducible refine Go.Eng.RunC.seq ?_ | with_reducible refine Go.Eng.RunC.region ?_ | with_reducible refine Go.Eng.RunC.skip ?_ | with_reducible refine Go.Eng.RunC.block ?_ | with_reducible refine Go.Eng.Ad0 ?_ | with_reducible refine Go.Eng.RunC.ret ?_ | with_reducible refine Go.Eng.Af1 ?_ | with_reducible refine Go.Eng.Ad6 ?_ | with_reducible refine Go.Eng.Ac0 ?_ | refine Go.Eng.Ac6 rfl rfl rfl ?_ | refine Go.Eng.Aa1 (Go.Eng.Val.fieldAddr rfl Go.Eng.Fld.h) rfl rfl rfl ?_ | refine Go.Eng.Aa1 (Go.Eng.Ag7 rfl Go.Eng.Slc.h) rfl rfl rfl ?_ | refine Go.Eng.Aa1 (Go.Eng.Aa3 rfl (.head _) Go.Eng.Tyc.h rfl) rfl rfl rfl ?_ | refine Go.Eng.Aa1 (Go.Eng.Ac4 rfl (.head _) Go.Eng.Tyc.h rfl) rfl rfl rfl ?_ | refine Go.Eng.Aa1 (Go.Eng.Aa3 rfl (.tail _ (.head _)) Go.Eng.Tyc.h rfl) rfl rfl rfl ?_ | refine Go.Eng.Aa1 (Go.Eng.Ac4 rfl (.tail _ (.head _)) Go.Eng.Tyc.h rfl) rfl rfl rfl ?_ | refine Go.Eng.Aa1 (Go.Eng.Aa3 rfl (.tail _ (.tail _ (.head _))) Go.Eng.Tyc.h rfl) rfl rfl rfl ?_ | refine Go.Eng.Aa1 (Go.Eng.Ac4 rfl (.tail _ (.tail _ (.head _))) Go.Eng.Tyc.h rfl) rfl rfl rfl ?_ | refine Go.Eng.Aa1 (Go.Eng.Aa3 rfl (.tail _ (.tail _ (.tail _ (.head _)))) Go.Eng.Tyc.h rfl) rfl rfl rfl ?_ | refine Go.Eng.Aa1 (Go.Eng.Ac4 rfl (.tail _ (.tail _ (.tail _ (.head _)))) Go.Eng.Tyc.h rfl) rfl rfl rfl ?_ | refine Go.Eng.Aa1 (Go.Eng.Aa3 rfl (.tail _ (.tail _ (.tail _ (.tail _ (.head _))))) Go.Eng.Tyc.h rfl) rfl rfl rfl ?_ | refine Go.Eng.Aa1 (Go.Eng.Ac4 rfl (.tail _ (.tail _ (.tail _ (.tail _ (.head _))))) Go.Eng.Tyc.h rfl) rfl rfl rfl ?_ | refine Go.Eng.Aa1 (Go.Eng.Aa3 rfl (.tail _ (.tail _ (.tail _ (.tail _ (.tail _ (.head _)))))) Go.Eng.Tyc.h rfl) rfl rfl rfl ?_ | refine Go.Eng.Aa1 (Go.Eng.Ac4 rfl (.tail _ (.tail _ (.tail _ (.tail _ (.tail _ (.head _)))))) Go.Eng.Tyc.h rfl) rfl rfl rfl ?_); exact k) : RunL P ops Q n (o :: rest) r ds W chg news := Aa1 hv hg hd hn (h k)
theorem zn {o : Oper} {v : Nat → Value} {ob : Obj} {q : Nat → Prop} (hv : New P r W chg news o v ob) (k : ∀ b, q b) (hg : guardB ops r o.guard = some true := by rfl) (hd : o.dst = some d := by rfl) (hn : Nat.ble (d + 1) n = true := by rfl)
    (h : ∀ b, q b → RunL P ops Q n rest ((d, v b) :: r) ds W chg ((b, ob) :: news) := by intro b; intro k; (repeat first | refine Go.Eng.vp rfl rfl rfl rfl ?_ | with_reducible refine Go.Eng.RunL.nil ?_ | with_reducible refine Go.Eng.RunE.next ?_ | with_reducible refine Go.Eng.RunC.seq ?_ | with_reducible refine Go.Eng.RunC.region ?_ | with_reducible refine Go.Eng.RunC.skip ?_ | with_reducible refine Go.Eng.RunC.block ?_ | with_reducible refine Go.Eng.Ad0 ?_ | with_reducible refine Go.Eng.RunC.ret ?_ | with_reducible refine Go.Eng.Af1 ?_ | with_reducible refine Go.Eng.Ad6 ?_ | with_reducible refine Go.Eng.Ac0 ?_ | refine Go.Eng.Ac6 rfl rfl rfl ?_ | refine Go.Eng.Aa1 (Go.Eng.Val.fieldAddr rfl Go.Eng.Fld.h) rfl rfl rfl ?_ | refine Go.Eng.Aa1 (Go.Eng.Ag7 rfl Go.Eng.Slc.h) rfl rfl rfl ?_ | refine Go.Eng.Aa1 (Go.Eng.Aa3 rfl (.head _) Go.Eng.Tyc.h rfl) rfl rfl rfl ?_ | refine Go.Eng.Aa1 (Go.Eng.Ac4 rfl (.head _) Go.Eng.Tyc.h rfl) rfl rfl rfl ?_ | refine Go.Eng.Aa1 (Go.Eng.Aa3 rfl (.tail _ (.head _)) Go.Eng.Tyc.h rfl) rfl rfl rfl ?_ | refine Go.Eng.Aa1 (Go.Eng.Ac4 rfl (.tail _ (.head _)) Go.Eng.Tyc.h rfl) rfl rfl rfl ?_ | refine Go.Eng.Aa1 (Go.Eng.Aa3 rfl (.tail _ (.tail _ (.head _))) Go.Eng.Tyc.h rfl) rfl rfl rfl ?_ | refine Go.Eng.Aa1 (Go.Eng.Ac4 rfl (.tail _ (.tail _ (.head _))) Go.Eng.Tyc.h rfl) rfl rfl rfl ?_ | refine Go.Eng.Aa1 (Go.Eng.Aa3 rfl (.tail _ (.tail _ (.tail _ (.head _)))) Go.Eng.Tyc.h rfl) rfl rfl rfl ?_ | refine Go.Eng.Aa1 (Go.Eng.Ac4 rfl (.tail _ (.tail _ (.tail _ (.head _)))) Go.Eng.Tyc.h rfl) rfl rfl rfl ?_ | refine Go.Eng.Aa1 (Go.Eng.Aa3 rfl (.tail _ (.tail _ (.tail _ (.tail _ (.head _))))) Go.Eng.Tyc.h rfl) rfl rfl rfl ?_ | refine Go.Eng.Aa1 (Go.Eng.Ac4 rfl (.tail _ (.tail _ (.tail _ (.tail _ (.head _))))) Go.Eng.Tyc.h rfl) rfl rfl rfl ?_ | refine Go.Eng.Aa1 (Go.Eng.Aa3 rfl (.tail _ (.tail _ (.tail _ (.tail _ (.tail _ (.head _)))))) Go.Eng.Tyc.h rfl) rfl rfl rfl ?_ | refine Go.Eng.Aa1 (Go.Eng.Ac4 rfl (.tail _ (.tail _ (.tail _ (.tail _ (.tail _ (.head _)))))) Go.Eng.Tyc.h rfl) rfl rfl rfl ?_); exact k) : RunL P ops Q n (o :: rest) r ds W chg news := Ad9 hv hg hd hn fun b => h b (k b)
end
theorem su {p q : Prop} (k : q) (h : q → p := by intro k; (repeat first | refine Go.Eng.vp rfl rfl rfl rfl ?_ | with_reducible refine Go.Eng.RunL.nil ?_ | with_reducible refine Go.Eng.RunE.next ?_ | with_reducible refine Go.Eng.RunC.seq ?_ | with_reducible refine Go.Eng.RunC.region ?_ | with_reducible refine Go.Eng.RunC.skip ?_ | with_reducible refine Go.Eng.RunC.block ?_ | with_reducible refine Go.Eng.Ad0 ?_ | with_reducible refine Go.Eng.RunC.ret ?_ | with_reducible refine Go.Eng.Af1 ?_ | with_reducible refine Go.Eng.Ad6 ?_ | with_reducible refine Go.Eng.Ac0 ?_ | refine Go.Eng.Ac6 rfl rfl rfl ?_ | refine Go.Eng.Aa1 (Go.Eng.Val.fieldAddr rfl Go.Eng.Fld.h) rfl rfl rfl ?_ | refine Go.Eng.Aa1 (Go.Eng.Ag7 rfl Go.Eng.Slc.h) rfl rfl rfl ?_ | refine Go.Eng.Aa1 (Go.Eng.Aa3 rfl (.head _) Go.Eng.Tyc.h rfl) rfl rfl rfl ?_ | refine Go.Eng.Aa1 (Go.Eng.Ac4 rfl (.head _) Go.Eng.Tyc.h rfl) rfl rfl rfl ?_ | refine Go.Eng.Aa1 (Go.Eng.Aa3 rfl (.tail _ (.head _)) Go.Eng.Tyc.h rfl) rfl rfl rfl ?_ | refine Go.Eng.Aa1 (Go.Eng.Ac4 rfl (.tail _ (.head _)) Go.Eng.Tyc.h rfl) rfl rfl rfl ?_ | refine Go.Eng.Aa1 (Go.Eng.Aa3 rfl (.tail _ (.tail _ (.head _))) Go.Eng.Tyc.h rfl) rfl rfl rfl ?_ | refine Go.Eng.Aa1 (Go.Eng.Ac4 rfl (.tail _ (.tail _ (.head _))) Go.Eng.Tyc.h rfl) rfl rfl rfl ?_ | refine Go.Eng.Aa1 (Go.Eng.Aa3 rfl (.tail _ (.tail _ (.tail _ (.head _)))) Go.Eng.Tyc.h rfl) rfl rfl rfl ?_ | refine Go.Eng.Aa1 (Go.Eng.Ac4 rfl (.tail _ (.tail _ (.tail _ (.head _)))) Go.Eng.Tyc.h rfl) rfl rfl rfl ?_ | refine Go.Eng.Aa1 (Go.Eng.Aa3 rfl (.tail _ (.tail _ (.tail _ (.tail _ (.head _))))) Go.Eng.Tyc.h rfl) rfl rfl rfl ?_ | refine Go.Eng.Aa1 (Go.Eng.Ac4 rfl (.tail _ (.tail _ (.tail _ (.tail _ (.head _))))) Go.Eng.Tyc.h rfl) rfl rfl rfl ?_ | refine Go.Eng.Aa1 (Go.Eng.Aa3 rfl (.tail _ (.tail _ (.tail _ (.tail _ (.tail _ (.head _)))))) Go.Eng.Tyc.h rfl) rfl rfl rfl ?_ | refine Go.Eng.Aa1 (Go.Eng.Ac4 rfl (.tail _ (.tail _ (.tail _ (.tail _ (.tail _ (.head _)))))) Go.Eng.Tyc.h rfl) rfl rfl rfl ?_); exact k) : p := h k
end Go.Eng
/- Maps whose keys are of any kind that is told: keys that are lists of numbers (arrays, structs); a new entry, an entry that is set anew, a range over one. -/
namespace Go.Eng
open Go Go.RowKit
def entsK {K : Type} (kv : K → Value) : Nat → List (K × Value) → List MapEntry
  | _, [] => []
  | i, x :: l => { key := kv x.1, val := x.2, born := i } :: entsK kv (i + 1) l
def kIdx {K : Type} [DecidableEq K] : List (K × Value) → K → Option (Nat × Value)
  | [], _ => none
  | x :: l, a => if x.1 = a then some (0, x.2) else (kIdx l a).map fun p => (p.1 + 1, p.2)
/-- The keys of a type of maps: what is known of them. -/
structure KeyOk {K : Type} [DecidableEq K] (P : Program) (T k E : TypeId) (kv : K → Value) (ok : K → Prop) : Prop where
  und : P.underlying T = some (.map k E)
  desc : ∃ d, P.underlying k = some d ∧ ∀ a b, Instr.sameNow d (kv a) (kv b) = none
  check : ∀ (e : Bool) (a : K) (w : World), ok a → (Instr.checkKey e 10000 k (kv a)).run P w = .ok () w
  same : ∀ (a b : K) (w : World), ok a → ok b → (Op.equal k (kv a) (kv b)).run P w = .ok (decide (a = b)) w
  bits : ∀ a : K, Instr.sameBits 10000 (kv a) (kv a) = true
section
variable {K : Type} [DecidableEq K] {kv : K → Value} {ok : K → Prop}
variable {P : Program} {T k E : TypeId}
theorem KeyOk.asking (h : KeyOk P T k E kv ok) {a : K} (ha : ok a) (w : World) : ∀ (l : List (K × Value)) (i j : Nat), (∀ x ∈ l, ok x.1) → (Instr.findAsking k (kv a) (entsK kv i l) j).run P w = .ok ((kIdx l a).map fun p => (j + p.1, p.2)) w
  | [], _, _, _ => rfl
  | x :: l, i, j, hl => by
    unfold entsK Instr.findAsking kIdx
    have h1 := h.same a x.1 w ha (hl x (by simp))
    by_cases hx : x.1 = a
    · rw [hx] at h1 ⊢
      simp at h1
      simp [h1]
    · have hx2 : ¬ a = x.1 := fun e => hx e.symm
      simp only [hx2, decide_false] at h1
      simp only [Sem.run_bind, h1, Result.andThen_ok, Bool.false_eq_true, if_false, if_neg hx, KeyOk.asking h ha w l (i + 1) (j + 1) (fun y hy => hl y (List.mem_cons_of_mem _ hy))]
      cases kIdx l a with
      | none => rfl
      | some p => simp; omega
theorem KeyOk.find (h : KeyOk P T k E kv ok) {a : K} (ha : ok a) (l : List (K × Value)) (hl : ∀ x ∈ l, ok x.1) (w : World) : (Instr.findKey k (kv a) (entsK kv 0 l)).run P w = .ok (kIdx l a) w := by
  obtain ⟨d, hu, hd⟩ := h.desc
  have h2 := h.asking ha w l 0 0 hl
  have e : ((kIdx l a).map fun p => (0 + p.1, p.2)) = kIdx l a := by cases kIdx l a <;> simp
  rw [e] at h2
  cases l with
  | nil => simp [Instr.findKey, run_underlying hu, entsK, Instr.findNow, kIdx]
  | cons x l =>
    have h3 : Instr.findNow d (kv a) (entsK kv 0 (x :: l)) 0 = none := by
      unfold entsK Instr.findNow
      rw [hd]
    simp [Instr.findKey, run_underlying hu, h3, h2]
end
section
variable {K : Type} [DecidableEq K] {kv : K → Value} {ok : K → Prop} {k E : TypeId} {l : List (K × Value)}
variable {P : Program} {ops : Array Oper} {Q : Exit → Act → World → Prop} {n : Nat} {r : Regs} {ds : List Deferred} {W : World} {chg news : Blks} {rest : List Oper}
variable {d : Nat} {ty : TypeId} {pos : String} {after : Array Edge} {dst : Option Tmp} {gd : Option (Nat × Bool)}
end
/-! ### Keys that are numbers in a row -/
def ka (l : List Int) : Value := .agg (l.map (Value.int .i64)).toArray
def mapKB' (P : Program) (T : TypeId) : Option (TypeId × TypeId) := match P.underlying T with
  | some (.map k e) => some (k, e)
  | _ => none
end Go.Eng
/- The engine: ranges over functions whose iterator has blocks of its own, wherever they stand; loops whose rounds leave marks. No program is in sight. -/
namespace Go.Eng
open Go Go.RowKit
section
variable {P : Program} {ops : Array Oper} {Q : Exit → Act → World → Prop} {n : Nat} {r : Regs} {ds : List Deferred} {W : World} {chg news : Blks}
/-! ### Loops whose rounds leave marks among the deferred calls -/
/-! ### The range itself -/
def AsgB {Y : Type} (n : Nat) (W : World) (R : Y → Regs) (NB : Y → Blks) (A : Blks) : Exit → Act → World → Prop
  | .normal, a, w => ∃ y, St n (R y) [] W [] (NB y ++ A) a w
  | _, _, _ => False
theorem BD9 {Y : Type} {R : Y → Regs} {NB : Y → Blks} {A : Blks} (y : Y) (hs : Sub (R y) r) (hn : Pick (NB y ++ A) news) : RunE (AsgB n W R NB A) n .normal r [] W [] news := fun _ _ s => ⟨y, s.pick hs hn⟩
theorem Bh6 {α X Y : Type} {g : Operand} {gf N : Nat} {ps : List Nat} {lb : Array Value} {encs : α → List Value} {eb : α → Blks} {itb : Blks} {mis : Int → Value} {S Sp : List α → Prop} {assign body : Code} {q : Regs}
    (RY : α → Y → Regs → Regs) (NB : α → Y → Blks) (U : X → Blks) (Iv : List α → X → Prop) (Stp : Code → X → Prop) (x0 : X) (i0 : Iv [] x0) (rst : Blks) (_hs : Sub q r) (hn : Pick (U x0 ++ (itb ++ rst)) news)
    (hlen : ∀ x, (encs x).length = ps.length) (hin : (ps.all fun p => Nat.ble (p + 1) n) = true)
    (hg : rev r g = some (.func (.func gf) #[] lb)) (he : Enters P gf) (hseq : SeqQ P gf lb encs eb itb mis S Sp (fun _ _ => False) N W)
    (hasg : ∀ l D ob pre v x tl, Iv pre x → Sp (pre ++ [v]) → RunCR (some l) P (AsgB n W (fun y => RY v y q) (NB v) ((l, ob) :: (D, dfrO) :: (eb v ++ (U x ++ tl)))) n assign (putsR ps (encs v) r) [] W [] ((l, ob) :: (D, dfrO) :: (eb v ++ (U x ++ tl))))
    (hbody : ∀ l D ob pre v y x tl, Iv pre x → Sp (pre ++ [v]) → pre.length < N → RunCR (some l) P (BodyQ2 W l ob (D, dfrO) U tl (Iv (pre ++ [v])) Stp (fun _ _ => False)) n body (RY v y q) [] W [] (NB v y ++ ((l, ob) :: (D, dfrO) :: (eb v ++ (U x ++ tl)))))
    (hdone : ∀ D xs x, S xs → Iv xs x → RunE Q n .normal r ({ target := .collected D, args := #[] } :: ds) W [] ((D, dfrO) :: (U x ++ rst)))
    (hstop : ∀ D c x, Stp c x → RunC P Q n c r ({ target := .collected D, args := #[] } :: ds) W [] ((D, dfrO) :: (U x ++ rst))) :
    RunC P Q n (.rangeFunc g ps.toArray assign body) r ds W [] news := fun a w s => by
  have hm := s.mem.pick hn
  refine (wpIn_wide (n := 9)).1 ?_
  show Code.wpIn (Fr none) 9 P _ Q a w
  refine wpIn_rangeFunc (fun f _ => ?_)
  obtain ⟨rc, hrc⟩ : ∃ rc : LoopState → Option Code → Obj, rc = recO f a.tmps ps.toArray assign body w.heap.size := ⟨_, rfl⟩
  obtain ⟨W1, hW1⟩ : ∃ W1, (w.alloc dfrO).alloc (rc .ready none) = W1 := ⟨_, rfl⟩
  have hm1 : Mem W [] ((w.heap.size + 1, rc .ready none) :: (w.heap.size, dfrO) :: (U x0 ++ (itb ++ rst))) W1 := by
    have h1 := (hm.alloc dfrO).alloc (rc .ready none)
    rw [hW1] at h1
    simpa using h1
  refine ⟨w.heap.size + 1, [{ target := .collected w.heap.size, args := #[] }], W1, { target := .fn (.func gf) lb, args := #[.func (.yield (w.heap.size + 1)) #[] #[]] }, W1, gf, #[.func (.yield (w.heap.size + 1)) #[] #[]] ++ lb, W1, ?_, ?_, fun _ _ => trivial, ?_, fun _ => by decide, ?_⟩
  · rw [← hW1, hrc]; exact run_enterLoop_outer _ _ _ _ _
  · simp only [resolve, s.agree.eval hg]
    simp [go_sem]
  · simp [invoke, go_sem, he _ _]
  refine (hseq (X := X × LoopState × Option Code) (w.heap.size + 1) (fun y => (w.heap.size + 1, rc y.2.1 y.2.2) :: (w.heap.size, dfrO) :: U y.1) (fun pre y => Iv pre y.1 ∧ y.2 = (.ready, none)) (fun y => ∃ c, Stp c y.1 ∧ y.2 = (.done, some c)) (fun _ _ => False) rst W1 (x0, .ready, none) ?_ ⟨i0, rfl⟩ (by simpa using hm1)).mono ?_
  · rintro pre v ⟨x, st⟩ tl w1 ⟨hI, rfl⟩ hsp hlen1 hmem0
    have hmem : Mem W [] ((w.heap.size + 1, rc .ready none) :: (w.heap.size, dfrO) :: (eb v ++ (U x ++ tl))) w1 := hmem0.pick (Pick.cnt fun z => by simp only [List.cons_append, List.count_append, List.count_cons]; omega)
    have hl : w1.heap[w.heap.size + 1]? = some (rc .ready none) := (hmem.newd _ _ (List.mem_cons_self ..)).2
    rw [hrc] at hl
    have hy := run_yield (P := P) (args := (encs v).toArray) hl (by simp [recO, hlen v])
    refine ⟨f, _, _, _, hy, roundIn_of_wpIn trivial ?_⟩
    rw [← hrc] at hl
    have hp := AB0 ps (encs v) a.tmps r (fun p hp => by rw [s.size]; exact Nat.le_of_ble_eq_true (List.all_eq_true.1 hin p hp)) (fun u v hu => s.agree u v hu)
    have e : (ps.toArray.zip (encs v).toArray).foldl (fun t (pv : Nat × Value) => t.setIfInBounds pv.1 pv.2) a.tmps = (ps.zip (encs v)).foldl (fun t (pv : Nat × Value) => t.setIfInBounds pv.1 pv.2) a.tmps := by
      rw [← Array.foldl_toList, Array.toList_zip]
    have ha := hasg (w.heap.size + 1) w.heap.size (rc .ready none) pre v x tl hI hsp { tmps := (ps.zip (encs v)).foldl (fun t (pv : Nat × Value) => t.setIfInBounds pv.1 pv.2) a.tmps, defers := [] } w1 ⟨by rw [hp.2]; exact s.size, fun u v hu => hp.1 u v hu, rfl, hmem⟩
    rw [← e] at ha
    refine Go.wpIn_mono (Aq4 ha) ?_
    intro e1 a2 w2 hq
    cases e1 with
    | normal =>
      obtain ⟨y, s2⟩ := hq
      have hmA : Mem W [] ((w.heap.size + 1, rc .ready none) :: (NB v y ++ ((w.heap.size, dfrO) :: (eb v ++ (U x ++ tl))))) w2 := s2.mem.pick (Pick.cnt fun z => by simp only [List.cons_append, List.count_append, List.count_cons]; omega)
      have hl2 : w2.heap[w.heap.size + 1]? = some (rc .ready none) := (hmA.newd _ _ (List.mem_cons_self ..)).2
      rw [hrc] at hl2
      refine ⟨_, run_beginRound hl2 rfl, ?_⟩
      have hm2 := hmA.put (rc .busy none)
      have eb2 : (Obj.loop { state := .busy, pending := none, fn := f, tmps := a.tmps, params := ps.toArray, assign := assign, body := body, defers := w.heap.size }) = rc .busy none := by rw [hrc]; rfl
      have hb := hbody (w.heap.size + 1) w.heap.size (rc .busy none) pre v y x tl hI hsp hlen1 a2 _ ⟨s2.size, s2.agree, s2.defers, hm2.pick (Pick.cnt fun z => by simp only [List.cons_append, List.count_append, List.count_cons]; omega)⟩
      rw [eb2]
      refine Go.wpIn_mono (Aq4 hb) ?_
      have fin : ∀ (jump : Option Code) (x' : X) (w3 : World), Mem W [] ((w.heap.size + 1, rc .busy none) :: (w.heap.size, dfrO) :: (U x' ++ tl)) w3 →
          (Instr.endRound (w.heap.size + 1) jump).run P w3 = .ok (.bool jump.isNone) (w3.putObj (w.heap.size + 1) (rc (if jump.isNone then .ready else .done) jump)) ∧
          Mem W [] ((w.heap.size + 1, rc (if jump.isNone then .ready else .done) jump) :: (w.heap.size, dfrO) :: (U x' ++ tl)) (w3.putObj (w.heap.size + 1) (rc (if jump.isNone then .ready else .done) jump)) := fun jump x' w3 h3 => by
        have hl3 : w3.heap[w.heap.size + 1]? = some (rc .busy none) := (h3.newd _ _ (List.mem_cons_self ..)).2
        rw [hrc] at hl3
        have h4 := run_endRound (P := P) jump hl3
        refine ⟨by rw [h4, hrc]; rfl, h3.put _⟩
      rintro e3 a3 w3 hq3
      cases e3 with
      | normal =>
        obtain ⟨x', hx', h3⟩ := hq3
        obtain ⟨h4, h5⟩ := fin none x' w3 h3
        exact ⟨_, _, h4, (x', .ready, none), h5, .inl ⟨rfl, hx', rfl⟩⟩
      | ret =>
        obtain ⟨x', hx', h3⟩ := hq3
        obtain ⟨h4, h5⟩ := fin (some .ret) x' w3 h3
        exact ⟨_, _, h4, (x', .done, some .ret), h5, .inr (.inl ⟨rfl, .ret, hx', rfl⟩)⟩
      | exit id =>
        obtain ⟨x', hx', h3⟩ := hq3
        obtain ⟨h4, h5⟩ := fin (some (.exit id)) x' w3 h3
        exact ⟨_, _, h4, (x', .done, some (.exit id)), h5, .inr (.inl ⟨rfl, .exit id, hx', rfl⟩)⟩
      | goto t => exact hq3.elim
      | panic c => exact hq3.2.elim fun _ h => h.1.elim
      | outgrown => exact hq3.elim
    | exit id => exact hq.elim
    | goto l => exact hq.elim
    | ret => exact hq.elim
    | panic c => exact hq.elim
    | outgrown => exact hq.elim
  · rintro e w2 ⟨⟨x, st⟩, hmem, hcase⟩
    have hdf : ∀ {w' : World}, Mem W [] ((w.heap.size, dfrO) :: (U x ++ rst)) w' → St n r ({ target := .collected w.heap.size, args := #[] } :: ds) W [] ((w.heap.size, dfrO) :: (U x ++ rst)) { a with defers := [{ target := .collected w.heap.size, args := #[] }] ++ a.defers } w' := fun h => ⟨s.size, s.agree, by rw [← s.defers]; rfl, h⟩
    have hl0 : w2.heap[w.heap.size + 1]? = some (rc st.1 st.2) := (hmem.newd _ _ (List.mem_cons_self ..)).2
    rw [hrc] at hl0
    rcases hcase with ⟨v, rfl, ⟨xs, hS, hI, rfl⟩ | ⟨c, hc, rfl⟩⟩ | ⟨c, rfl, hc⟩ | ⟨k, xs, rfl, hS, hI, rfl⟩
    · exact ⟨none, _, run_endLoop (P := P) hl0 (by simp), hdone _ xs x hS hI _ _ (hdf (hmem.putNew _))⟩
    · exact ⟨some c, _, run_endLoop (P := P) hl0 (by simp), (wpIn_wide (n := 9)).2 (hstop _ c x hc _ _ (hdf (hmem.putNew _)))⟩
    · exact hc.elim
    · exact hS.elim
end
end Go.Eng
/- The engine: regions that draw their order and then hand over; copies that do not fill. No program is in sight. -/
namespace Go.Eng
open Go Go.RowKit
section
variable {ro : Option Nat} {P : Program} {Q : Exit → Act → World → Prop} {n : Nat} {r : Regs} {ds : List Deferred} {W : World} {chg news : Blks}
variable {l1 l2 : List Oper}
end
section
variable {P : Program} {ops : Array Oper} {Q : Exit → Act → World → Prop} {n : Nat} {r : Regs} {ds : List Deferred} {W : World} {chg news : Blks}
variable {d i : Nat} {ty : TypeId} {pos : String} {after : Array Edge} {K : Act → World → Prop}
end
end Go.Eng
/- The engine: calls that may panic, and make blocks of any kind. No program is in sight. -/
namespace Go.Eng
open Go Go.RowKit
section
variable {P : Program} {ops : Array Oper} {Q : Exit → Act → World → Prop} {n : Nat} {r : Regs} {ds : List Deferred} {W : World} {chg news : Blks} {rest : List Oper} {d : Nat}
/-- It panics with a value; or makes blocks. -/
def TryB {α β : Type} (mis : Int → Value) (x : Except Int α) (v : β → Value) (nw : β → Blks) (W : World) (e : Ending) (w : World) : Prop :=
  match x with
  | .error k => e = .panicked [{ v := mis k, recovered := false }] ∧ Mem W [] [] w
  | .ok _ => ∃ b, e = .returned (v b) ∧ Mem W [] (nw b) w
theorem AH5 {α β : Type} {fn : Func} {mis : Int → Value} {x : Except Int α} {v : β → Value} {nw : β → Blks} {k : Int} (he : x = .error k) :
    RunE (bodyPost P fn (TryB mis x v nw W)) n (.panic [{ v := mis k, recovered := false }]) r [] W [] news := fun _ w s => ⟨s.defers, by rw [he]; exact ⟨rfl, s.mem.drop⟩⟩
theorem Bs4 {α β : Type} {fn : Func} {mis : Int → Value} {x : Except Int α} {v : β → Value} {nw : β → Blks} {u : Value} {a : α} (b : β) (hv : ResVs P r news fn u) (he : x = .ok a) (hu : u = v b) (hp : Pick (nw b) news) :
    RunE (bodyPost P fn (TryB mis x v nw W)) n .ret r [] W [] news :=
  RunE.ret (chg := []) hv (fun _ hm => by rw [he]; exact ⟨b, by rw [hu], hm.pick hp⟩)
end
end Go.Eng
/- The engine: a field of a struct value that is a struct or an array. No program is in sight. -/
namespace Go.Eng
open Go Go.RowKit
section
variable {P : Program} {r : Regs} {W : World} {chg news : Blks}
variable {ty : TypeId} {pos : String} {after : Array Edge} {dst : Option Tmp} {gd : Option (Nat × Bool)}
/-- A field that is a struct or an array: where it lies, how many cells it has. -/
def fieldNB (P : Program) (T : TypeId) (i : Nat) : Option (Nat × Nat) :=
  match P.underlying T with
  | some (.struct fs) => match fs[i]? with
    | some f => match tyB P f.type with
      | some (true, n) => some (f.offset, n)
      | _ => none
    | none => none
  | _ => none
theorem Bv2 {w : World} {t : TypeId} {n : Nat} {cs : Array Value} {off : Nat} (hT : tyB P t = some (true, n)) : (part t cs off).run P w = .ok (.agg (cs.extract off (off + n))) w := by
  unfold tyB at hT
  split at hT
  · rename_i i d hi hd
    simp only [Option.some.injEq, Prod.mk.injEq] at hT
    have hagg : (isAgg t).run P w = .ok true w := by
      unfold isAgg
      cases d <;> simp_all [isAggD, run_underlying hd]
    simp [part, hagg, sizeOf, typeInfo, hi, hT.2]
  · cases hT
theorem AR3 {x : Operand} {T : TypeId} {i off n : Nat} {cs : Array Value} (hx : rev r x = some (.agg cs)) (hf : fieldNB P T i = some (off, n)) :
    Val P r W chg news { dst, op := .field T x i, type := ty, pos, after, guard := gd } (.agg (cs.extract off (off + n))) :=
  ⟨fun a w ha _ => by
    unfold fieldNB at hf
    split at hf
    · rename_i fs hfs
      split at hf
      · rename_i f hfi
        split at hf
        · rename_i n' hd
          obtain ⟨rfl, rfl⟩ := Prod.mk.inj (Option.some.inj hf)
          have hp := Bv2 (P := P) (w := w) (cs := cs) (off := f.offset) hd
          simp [execOp, ha.eval hx, Instr.field, run_underlying hfs, hfi, asAgg, hp]
        · cases hf
      · cases hf
    · cases hf⟩
end
end Go.Eng
/- The engine: maps with whole numbers as keys, whose entries are put anew. No program is in sight. -/
namespace Go.Eng
open Go Go.RowKit
def mSet : List (Int × Value) → Int → Value → List (Int × Value)
  | [], a, v => [(a, v)]
  | x :: l, a, v => if x.1 = a then (a, v) :: l else x :: mSet l a v
theorem AD3 {a : Int} : ∀ {l : List (Int × Value)}, mIdx l a = none → ∀ v, mSet l a v = l ++ [(a, v)]
  | [], _, _ => rfl
  | x :: l, h, v => by
    unfold mIdx at h
    split at h
    · cases h
    · rename_i hx
      have h2 : mIdx l a = none := by cases hg : mIdx l a with
        | none => rfl
        | some p => rw [hg] at h; cases h
      unfold mSet
      rw [if_neg hx, AD3 h2 v]
      rfl
theorem AZ4 {a : Int} {p : Nat × Value} : ∀ {l : List (Int × Value)} (i : Nat), mIdx l a = some p → ∀ v, (mEntsF i (mSet l a v)) = (mEntsF i l).modify p.1 (fun e => { e with key := .int .i64 a, val := v }) ∧ (mSet l a v).length = l.length ∧ ((mEntsF i l)[p.1]?).map (·.key) = some (.int .i64 a)
  | [], _, h, _ => by cases h
  | x :: l, i, h, v => by
    unfold mIdx at h
    split at h
    · rename_i hx
      cases h
      unfold mSet
      rw [if_pos hx]
      refine ⟨rfl, rfl, ?_⟩
      simp [mEntsF, hx]
    · rename_i hx
      cases hg : mIdx l a with
      | none => rw [hg] at h; cases h
      | some q =>
        rw [hg] at h
        cases h
        obtain ⟨h1, h2, h3⟩ := AZ4 (i + 1) hg v
        unfold mSet
        rw [if_neg hx]
        refine ⟨?_, by simp [h2], ?_⟩
        · simp only [mEntsF, h1]
          rfl
        · simpa [mEntsF] using h3
section
variable {P : Program} {ops : Array Oper} {Q : Exit → Act → World → Prop} {n : Nat} {r : Regs} {ds : List Deferred} {W : World} {chg news : Blks} {rest : List Oper}
variable {d : Nat} {ty : TypeId} {pos : String} {after : Array Edge} {dst : Option Tmp} {gd : Option (Nat × Bool)}
theorem As1 {w : World} {T E : TypeId} {b : Nat} {l : List (Int × Value)} {a : Int} {v : Value} (hb : w.heap[b]? = some (mapO l)) (hT : mapB P T = some E) :
    (Instr.mapUpdate T (.map (some b)) (.int .i64 a) v).run P w = .ok () { w with heap := w.heap.setIfInBounds b (mapO (mSet l a v)) } := by
  cases hk : mIdx l a with
  | none => rw [AD3 hk]; exact As2 hb hT hk
  | some p =>
    obtain ⟨k, q, hu, hq⟩ := AD2 hT
    have hf : (Instr.findKey k (.int .i64 a) (mEntsF 0 l)).run P w = .ok (some p) w := by
      have := Ar1 q a l 0 0
      rw [hk] at this
      have h2 := MapKept.run_findKey hq this (w := w)
      simpa using h2
    have hc : ∀ e, (Instr.checkKey e 10000 k (.int .i64 a)).run P w = .ok () w := fun e => by
      rw [show (10000 : Nat) = 9999 + 1 from rfl]
      unfold Instr.checkKey
      simp [run_underlying hq]
    obtain ⟨h1, h2, h3⟩ := AZ4 0 hk v
    have e1 : mapO (mSet l a v) = .map ((mEntsF 0 l).toArray.modify p.1 fun e => { e with key := .int .i64 a, val := v }) l.length := by
      unfold mapO
      rw [h1, h2, List.modify_toArray]
    have h4 : (((mEntsF 0 l).toArray[p.1]?).map (·.key)).getD (.int .i64 a) = .int .i64 a := by
      rw [List.getElem?_toArray, h3]
      rfl
    have h5 : (Instr.keyThatStays (.int .i64 a) (.int .i64 a)).run P w = .ok (.int .i64 a) w := by
      unfold Instr.keyThatStays
      rw [if_pos (by simp [Instr.sameBits])]
      rfl
    unfold mapO at hb
    rw [e1]
    simp only [Instr.mapUpdate, Sem.run_bind, run_underlying hu, Result.andThen_ok, MapKept.run_getObj_map hb, hc, hf, h4, h5, MapKept.run_setObj_map _ hb]
theorem AR4 {x i y : Operand} {T E : TypeId} {b : Nat} {l : List (Int × Value)} {a : Int} {v : Value} {news' : Blks} (hx : rev r x = some (.map (some b))) (hi : rev r i = some (.int .i64 a)) (hy : rev r y = some v) (hT : mapB P T = some E) (hu : Upd news b (mapO l) (mapO (mSet l a v)) news') :
    Sto P r W chg news { dst, op := .mapUpdate T x i y, type := ty, pos, after, guard := gd } chg news' :=
  ⟨fun ac w ha hm => by
    have hb := (hm.newd _ _ hu.mem).2
    obtain ⟨s1, s2⟩ := Ao8 (o' := mapO (mSet l a v)) hb
    refine ⟨{ w with heap := w.heap.setIfInBounds b (mapO (mSet l a v)) }, by simp [execOp, ha.eval hx, ha.eval hi, ha.eval hy, As1 hb hT], hm.upd_new hu rfl rfl rfl (by simp) (fun k _ hk => s2 k hk) s1⟩⟩
theorem Bh3 {x i y : Operand} {T E : TypeId} {b : Nat} {l : List (Int × Value)} {a : Int} {v : Value} {news' : Blks} (hx : rev r x = some (.map (some b))) (hi : rev r i = some (.int .i64 a)) (hy : rev r y = some v) (hT : mapB P T = some E) (hu : Upd news b (mapO l) (mapO (mSet l a v)) news') :
    Sto P r W chg news { dst, op := .insert T x i y, type := ty, pos, after, guard := gd } chg news' :=
  ⟨fun ac w ha hm => by
    have hb := (hm.newd _ _ hu.mem).2
    obtain ⟨s1, s2⟩ := Ao8 (o' := mapO (mSet l a v)) hb
    refine ⟨{ w with heap := w.heap.setIfInBounds b (mapO (mSet l a v)) }, by simp [execOp, ha.eval hx, ha.eval hi, ha.eval hy, As1 hb hT], hm.upd_new hu rfl rfl rfl (by simp) (fun k _ hk => s2 k hk) s1⟩⟩
end
end Go.Eng
/- The engine: calls in which something is handed over, so that they may panic with whatever the caller's rounds do. No program is in sight. -/
namespace Go.Eng
open Go Go.RowKit
/-- What comes back is measured by the caller's own beginning; or it panics as a round of the caller's does. -/
def GrowQ {β γ : Type} (W0 : World) (chg : Blks) (v : β → Value) (nw : β → Blks) (I : β → Prop) (cc : γ → List PanicEntry) (np : γ → Blks) (J : γ → Prop) (e : Ending) (w : World) : Prop :=
  (∃ b : β, I b ∧ e = .returned (v b) ∧ Mem W0 chg (nw b) w) ∨ (∃ c : γ, J c ∧ e = .panicked (cc c) ∧ Mem W0 chg (np c) w)
section
variable {P : Program} {ops : Array Oper} {Q : Exit → Act → World → Prop} {n : Nat} {r : Regs} {ds : List Deferred} {W : World} {chg news : Blks} {rest : List Oper} {d : Nat}
variable {β γ : Type} {v : β → Value} {nw : β → Blks} {I : β → Prop} {cc : γ → List PanicEntry} {np : γ → Blks} {J : γ → Prop}
theorem AR5 {i : Nat} {K : Act → World → Prop} {o : Oper} {f : FuncId} {args : Array Value} (ho : ops[i]? = some o) (hi : IsCall P r o f args) (hg : guardB ops r o.guard = some true) (hd : o.dst = some d) (hn : Nat.ble (d + 1) n = true)
    (hc : ∀ w, Mem W chg news w → Calls P f args w (GrowQ W chg v nw I cc np J)) (hp : ∀ c, J c → RunE Q n (.panic (cc c)) r ds W chg (np c)) (h : ∀ b, I b → RunK n K ((d, v b) :: r) ds W chg (nw b)) : RunI P ops Q n i K r ds W chg news :=
  RunI.call ho hi hg hc (fun a w e w' s hR => by
    rcases hR with ⟨b, hI, rfl, hm⟩ | ⟨c, hJ, rfl, hm⟩
    · have s2 := s.put (Nat.le_of_ble_eq_true hn) (v b)
      simp only [hd]
      exact h b hI _ _ ⟨s2.size, s2.agree, s2.defers, hm⟩
    · exact hp c hJ a w' ⟨s.size, s.agree, s.defers, hm⟩)
variable {fn : Func}
theorem AG6 (x : β) (hx : I x) {u : Value} (hv : ResVs P r (chg ++ news) fn u) (he : u = v x) (hp : Pick (nw x) news) : RunE (bodyPost P fn (GrowQ W chg v nw I cc np J)) n .ret r [] W chg news :=
  RunE.ret hv (fun _ hm => .inl ⟨x, hx, by rw [he], hm.pick hp⟩)
theorem AR7 (c : γ) (hc : J c) {k : List PanicEntry} (hk : cc c = k) (hp : Pick (np c) news) : RunE (bodyPost P fn (GrowQ W chg v nw I cc np J)) n (.panic k) r [] W chg news := fun _ w s =>
  ⟨s.defers, .inr ⟨c, hc, by rw [hk], s.mem.pick hp⟩⟩
end
end Go.Eng
namespace Go.Pw1
open Go Go.Eng

structure Sp where
  lo : Int
  hi : Int
  deriving DecidableEq
structure Th where
  lx : Sp
  ly : Sp
  rx : Sp
  ry : Sp
  far : Int
  deriving DecidableEq
structure Pr where
  focal : Sp
  base : Sp
  tilt : Int
  near : Int
  far : Int
  things : List Th

def Sp.v (s : Sp) : Value := .agg #[.int .i64 s.lo, .int .i64 s.hi]
def Th.cells (t : Th) : List Value := [.int .i64 t.lx.lo, .int .i64 t.lx.hi, .int .i64 t.ly.lo, .int .i64 t.ly.hi, .int .i64 t.rx.lo, .int .i64 t.rx.hi, .int .i64 t.ry.lo, .int .i64 t.ry.hi, .int .i64 t.far]
def Th.v (t : Th) : Value := .agg t.cells.toArray
def Pr.cells (p : Pr) (q : Option Addr) (cap : Nat) : List Value := [.int .i64 p.focal.lo, .int .i64 p.focal.hi, .int .i64 p.base.lo, .int .i64 p.base.hi, .int .i64 p.tilt, .int .i64 p.near, .int .i64 p.far, .slice q p.things.length cap]
def Pr.v (p : Pr) (q : Option Addr) (cap : Nat) : Value := .agg (p.cells q cap).toArray
/-- A view: a pair and its powers. -/
def vwCells (p : Pr) (q : Option Addr) (cap : Nat) (w : Int × Int) : List Value := [.int .i64 p.focal.lo, .int .i64 p.focal.hi, .int .i64 p.base.lo, .int .i64 p.base.hi, .int .i64 p.tilt, .int .i64 p.near, .int .i64 p.far, .slice q p.things.length cap, .int .i64 w.1, .int .i64 w.2]
def b2c (b : Int × Int) : List Value := [.int .i64 b.1, .int .i64 b.2]
def b2v (b : Int × Int) : Value := .agg #[.int .i64 b.1, .int .i64 b.2]

/-- A number below another one, times one. -/
theorem AG9 {a b A B : Int} (ha : 0 ≤ a) (ha' : a ≤ A) (hb : 0 ≤ b) (hb' : b ≤ B) : 0 ≤ a * b ∧ a * b ≤ A * B :=
  ⟨Int.mul_nonneg ha hb, Int.le_trans (Int.mul_le_mul_of_nonneg_left hb' ha) (Int.mul_le_mul_of_nonneg_right ha' (Int.le_trans hb hb'))⟩

/-! ## The package -/
def within (n lo hi : Int) : Bool := decide (lo ≤ n) && decide (n ≤ hi)
def isSpan (s : Sp) (lo hi : Int) : Bool := decide (lo ≤ s.lo) && decide (s.lo ≤ s.hi) && decide (s.hi ≤ hi)
def isPlace (x y : Sp) : Bool := isSpan x (-4000) 4000 && isSpan y (-4000) 4000
def bad (p : Pr) (t : Th) : Bool := !isPlace t.lx t.ly || !isPlace t.rx t.ry || (!decide (t.far = 0) && !within t.far p.near p.far)
def isPair (p : Pr) : Bool :=
  (isSpan p.focal 1 50000 && isSpan p.base 1 10000 && within p.tilt 0 1000) && within p.near 2000 1073741824 && within p.far p.near 1073741824 && decide ((p.things.length : Int) ≤ 12) && !p.things.any (bad p)

def Sp.Ok (s : Sp) (b : Int) : Prop := -b ≤ s.lo ∧ s.lo ≤ s.hi ∧ s.hi ≤ b
def Th.Ok (t : Th) : Prop := t.lx.Ok 4000 ∧ t.ly.Ok 4000 ∧ t.rx.Ok 4000 ∧ t.ry.Ok 4000
structure Pr.Ok (p : Pr) : Prop where
  f1 : 1 ≤ p.focal.lo
  f2 : p.focal.lo ≤ p.focal.hi
  f3 : p.focal.hi ≤ 50000
  b1 : 1 ≤ p.base.lo
  b2 : p.base.lo ≤ p.base.hi
  b3 : p.base.hi ≤ 10000
  t1 : 0 ≤ p.tilt
  t2 : p.tilt ≤ 1000
  n1 : 2000 ≤ p.near
  n2 : p.near ≤ p.far
  n3 : p.far ≤ 1073741824
  len : p.things.length ≤ 12
  ths : ∀ t ∈ p.things, t.Ok ∧ (t.far = 0 ∨ (p.near ≤ t.far ∧ t.far ≤ p.far))
theorem Ag8 {p : Pr} (h : isPair p = true) : p.Ok := by
  simp only [isPair, isSpan, within, Bool.and_eq_true, decide_eq_true_eq, Bool.not_eq_true', List.any_eq_false] at h
  obtain ⟨⟨⟨⟨⟨⟨h1, h2⟩, h3⟩, h4⟩, h5⟩, h6⟩, h7⟩ := h
  refine ⟨by omega, by omega, by omega, by omega, by omega, by omega, by omega, by omega, by omega, by omega, by omega, by omega, fun t ht => ?_⟩
  have := h7 t ht
  simp only [bad, isPlace, isSpan, within, Bool.or_eq_true, Bool.not_eq_true', Bool.and_eq_true, decide_eq_true_eq, Bool.and_eq_false_iff, decide_eq_false_iff_not, not_or, Bool.not_eq_false', not_and] at this
  unfold Th.Ok Sp.Ok
  refine ⟨by omega, ?_⟩
  by_cases h0 : t.far = 0
  · exact .inl h0
  · right; omega

def shift (t : Th) : Int × Int := (t.lx.lo - t.rx.hi, t.lx.hi - t.rx.lo)
def nar (a b : Int × Int) : Int × Int := (max a.1 b.1, min a.2 b.2)
def narL (a : Int × Int) (l : List (Int × Int)) : Int × Int := l.foldl nar a
theorem AZ1 (a : Int × Int) (l : List (Int × Int)) (x : Int × Int) : narL a (l ++ [x]) = nar (narL a l) x := by simp [narL, List.foldl_append]
def isB (a : Int × Int) : Bool := decide (a.1 ≤ a.2)
theorem Bj0 {t : Th} (h : t.Ok) : (-8000 ≤ (shift t).1 ∧ (shift t).1 ≤ 8000) ∧ (-8000 ≤ (shift t).2 ∧ (shift t).2 ≤ 8000) := by
  obtain ⟨⟨h1, h2, h3⟩, ⟨h4, h5, h6⟩, ⟨h7, h8, h9⟩, ⟨h10, h11, h12⟩⟩ := h
  simp only [shift]
  omega
def shownS (t : Th) : Int × Int := nar (shift t) (0, 2000)
def levelS (p : Pr) (t : Th) : Bool := isB (nar (t.ly.lo - t.ry.hi, t.ly.hi - t.ry.lo) (-p.tilt, p.tilt))
def powersS (p : Pr) (t : Th) (s : Int × Int) : Int × Int := if t.far = 0 then (s.1 * p.near, (s.2 + 1) * p.far - 1) else (s.1 * t.far, (s.2 + 1) * t.far - 1)
/-- The powers, of some, with which a thing stands still; and whether there are any. -/
def stillS (p : Pr) (t : Th) (w : Int × Int) : (Int × Int) × Bool :=
  if isB (shownS t) && levelS p t then (nar w (powersS p t (shownS t)), isB (nar w (powersS p t (shownS t)))) else (w, false)

theorem At7 {t : Th} (h : isB (shownS t) = true) : 0 ≤ (shownS t).1 ∧ (shownS t).1 ≤ (shownS t).2 ∧ (shownS t).2 ≤ 2000 := by
  simp only [isB, decide_eq_true_eq] at h
  refine ⟨?_, h, ?_⟩
  · simp only [shownS, nar]; omega
  · simp only [shownS, nar]; omega
/-- The index of the first one; -1: there is none. -/
def idxF {α : Type} (f : α → Bool) : List α → Int
  | [] => -1
  | x :: l => if f x then 0 else if idxF f l < 0 then -1 else idxF f l + 1
theorem Bf6 {α : Type} (f : α → Bool) : ∀ l, -1 ≤ idxF f l
  | [] => by simp [idxF]
  | x :: l => by have := Bf6 f l; unfold idxF; split <;> (try split) <;> omega
theorem Ag9 {α : Type} (f : α → Bool) : ∀ l, l.any f = false → idxF f l = -1
  | [], _ => rfl
  | x :: l, h => by
    simp only [List.any_cons, Bool.or_eq_false_iff] at h
    have := Ag9 f l h.2
    simp [idxF, h.1, this]
theorem Ai7 {α : Type} (f : α → Bool) : ∀ l, decide (0 ≤ idxF f l) = l.any f
  | [] => by simp [idxF]
  | x :: l => by
    have ih := Ai7 f l
    have := Bf6 f l
    cases hx : f x
    · simp only [List.any_cons, hx, Bool.false_or, ← ih, idxF]
      by_cases h : idxF f l < 0
      · simp [h, show ¬ 0 ≤ idxF f l by omega]
      · simp [h, show 0 ≤ idxF f l by omega]; omega
    · simp [idxF, hx]
theorem Ai1 {α : Type} (f : α → Bool) : ∀ (l : List α) (k : Nat) (h : k < l.length), (l.take k).any f = false → f l[k] = true → idxF f l = k
  | [], k, h, _, _ => by simp at h
  | x :: l, 0, _, _, h => by simp at h; simp [idxF, h]
  | x :: l, k + 1, h, h1, h2 => by
    simp only [List.take_succ_cons, List.any_cons, Bool.or_eq_false_iff] at h1
    have ih := Ai1 f l k (by simpa using h) h1.2 (by simpa using h2)
    simp only [idxF, h1.1, ih]
    simp
    omega
theorem Ah2 {α : Type} {f : α → Bool} {l : List α} {k : Nat} (h : k < l.length) (h1 : (l.take k).any f = false) (h2 : f l[k] = false) : (l.take (k + 1)).any f = false := by
  rw [List.take_succ_eq_append_getElem h, List.any_append, h1]
  simp [h2]

theorem Ap7 {α : Type} {f : α → Bool} {l : List α} {k : Nat} (h : k < l.length) (h2 : f l[k] = true) : l.any f = true := List.any_eq_true.2 ⟨_, List.getElem_mem h, h2⟩
def needX (b : Bool) (e : Int) : Except Int Value := if b then .ok (.tuple #[]) else .error e
theorem Ai5 {b : Bool} {e : Int} {v : Value} (h : needX b e = .ok v) : b = true ∧ v = .tuple #[] := by
  unfold needX at h; split at h
  · cases h; exact ⟨by assumption, rfl⟩
  · cases h
theorem Ah0 {b : Bool} {e k : Int} (h : needX b e = .error k) : b = false ∧ k = e := by
  unfold needX at h; split at h
  · cases h
  · cases h; exact ⟨by simp_all, rfl⟩
/-- A pair is opened, with these numbers of things. -/
def openX (p : Pr) (l : List Int) : Except Int Unit :=
  if isPair p then (if l.any (fun n => !within n 0 ((p.things.length : Int) - 1)) then .error 2 else .ok ()) else .error 1
/-- The powers behind some landmarks; none: there is no truth. -/
def lookL (p : Pr) (w : Int × Int) : List Th → Option (Int × Int)
  | [] => some w
  | t :: l => if t.far = 0 then lookL p w l else if (stillS p t w).2 then lookL p (stillS p t w).1 l else none
def lookS (p : Pr) : Option (Int × Int) := lookL p (p.focal.lo * p.base.lo, p.focal.hi * p.base.hi) p.things
def lookX (p : Pr) : Except Int (Int × Int) := match lookS p with | some w => .ok w | none => .error 4
theorem Aq8 (p : Pr) : ∀ (l l2 : List Th) (w : Int × Int), lookL p w (l ++ l2) = match lookL p w l with | some u => lookL p u l2 | none => none
  | [], l2, w => by simp [lookL]
  | t :: l, l2, w => by
    simp only [List.cons_append, lookL]
    split
    · exact Aq8 p l l2 w
    · split
      · exact Aq8 p l l2 _
      · rfl
theorem Ai9 {p : Pr} {l : List Th} {w u : Int × Int} {k : Nat} (hk : k < l.length) {t : Th} (ht : l[k] = t) (h : lookL p w (l.take k) = some u) : lookL p w (l.take (k + 1)) = lookL p u [t] := by
  subst ht
  rw [List.take_succ_eq_append_getElem hk, Aq8, h]
theorem Bx4 {p : Pr} {l : List Th} {w u : Int × Int} {k : Nat} (hk : k < l.length) {t : Th} (ht : l[k] = t) (h : lookL p w (l.take k) = some u) (h2 : lookL p u [t] = none) : lookL p w l = none := by
  have h3 : lookL p w (l.take (k + 1)) = none := by rw [Ai9 hk ht h, h2]
  have h4 := Aq8 p (l.take (k + 1)) (l.drop (k + 1)) w
  rw [List.take_append_drop, h3] at h4
  exact h4
theorem Ay3 {p : Pr} {l : List Int} {u : Unit} (h : openX p l = .ok u) : isPair p = true ∧ l.any (fun n => !within n 0 ((p.things.length : Int) - 1)) = false := by
  unfold openX at h
  split at h
  · split at h
    · cases h
    · exact ⟨by assumption, by simp_all⟩
  · cases h
def truthsX (p : Pr) (l : List Int) : Except Int (Int × Int) := match openX p l with | .error k => .error k | .ok _ => lookX p

theorem Ay4 {p : Pr} {l : List Int} {u : Unit} (h : openX p l = .ok u) {n : Int} (hn : n ∈ l) : ∃ k : Nat, n = k ∧ k < p.things.length := by
  have h2 := (Ay3 h).2
  have h3 := List.any_eq_false.1 h2 n hn
  simp only [within, Bool.not_eq_true', Bool.and_eq_true, decide_eq_true_eq, Bool.not_eq_false', Bool.not_eq_true, Bool.not_eq_false] at h3
  obtain ⟨k, rfl⟩ := Int.eq_ofNat_of_zero_le (by omega : 0 ≤ n)
  exact ⟨k, rfl, by omega⟩
theorem Bn9 {p : Pr} {l : List Int} {w : Int × Int} (h : truthsX p l = .ok w) : openX p l = .ok () ∧ lookS p = some w := by
  unfold truthsX lookX at h
  split at h
  · cases h
  · rename_i u hu
    split at h
    · rename_i w' hw
      cases h
      exact ⟨hu, hw⟩
    · cases h
theorem Bf0 {p : Pr} : ∀ {l : List Th} {w u : Int × Int}, lookL p w l = some u → w.1 ≤ w.2 → w.1 ≤ u.1 ∧ u.2 ≤ w.2 ∧ u.1 ≤ u.2
  | [], w, u, h, h0 => by cases h; omega
  | t :: l, w, u, h, h0 => by
    simp only [lookL] at h
    split at h
    · exact Bf0 h h0
    · split at h
      · rename_i hs
        have hst : (stillS p t w).1.1 ≤ (stillS p t w).1.2 ∧ w.1 ≤ (stillS p t w).1.1 ∧ (stillS p t w).1.2 ≤ w.2 := by
          unfold stillS at hs ⊢
          split
          · rename_i hc
            rw [if_pos hc] at hs
            simp only [isB, decide_eq_true_eq] at hs
            refine ⟨hs, ?_, ?_⟩ <;> simp only [nar] <;> omega
          · rename_i hc
            rw [if_neg hc] at hs; cases hs
        have := Bf0 h hst.1
        omega
      · cases h
theorem Bx5 {p : Pr} (hp : p.Ok) {w : Int × Int} (h : lookX p = .ok w) : 1 ≤ w.1 ∧ w.1 ≤ w.2 ∧ w.2 ≤ 500000000 := by
  have f1 := hp.f1
  have f2 := hp.f2
  have f3 := hp.f3
  have b1 := hp.b1
  have b2 := hp.b2
  have b3 := hp.b3
  have m2 := AG9 (a := p.focal.hi) (b := p.base.hi) (A := 50000) (B := 10000) (by omega) (by omega) (by omega) (by omega)
  have m1 : 1 * 1 ≤ p.focal.lo * p.base.lo := Int.mul_le_mul f1 b1 (by omega) (by omega)
  have m3 : p.focal.lo * p.base.lo ≤ p.focal.hi * p.base.hi := Int.mul_le_mul f2 b2 (by omega) (by omega)
  unfold lookX at h
  split at h
  · rename_i w' hw
    cases h
    have := Bf0 (show lookL p _ p.things = some w from hw) m3
    simp only at this
    omega
  · cases h
theorem AM7 {a b : Int} (h0 : 0 ≤ a) (h1 : a ≤ 1000000000000) (hb : 0 < b) : -9223372036854775808 ≤ a / b ∧ a / b ≤ 9223372036854775807 := by
  have h2 := Int.ediv_nonneg h0 (Int.le_of_lt hb)
  have h3 := Int.ediv_le_self b h0
  omega
/-- What the functions return. -/
def thingAt (p : Pr) (n : Int) : Th := p.things.getD n.toNat ⟨⟨0, 0⟩, ⟨0, 0⟩, ⟨0, 0⟩, ⟨0, 0⟩, 0⟩
theorem Ae6 {p : Pr} {k : Nat} {t : Th} (hk : k < p.things.length) (ht : p.things[k] = t) : thingAt p (k : Int) = t := by simp [thingAt, hk, ht]
def shiftX (p : Pr) (n : Int) : (Int × Int) × Int := match openX p [n] with | .error k => ((0, 0), k) | .ok _ => (shift (thingAt p n), 0)
def nearerS (a b : Th) : Int := if (shift b).2 < (shift a).1 then 2 else if (shift b).1 < (shift a).2 then 1 else 0
def nearerX (p : Pr) (a b : Int) : Int × Int := match openX p [a, b] with | .error k => (0, k) | .ok _ => (nearerS (thingAt p a) (thingAt p b), 0)
def powerX (p : Pr) : (Int × Int) × Int := match truthsX p [] with | .error k => ((0, 0), k) | .ok w => (w, 0)
def standsX (p : Pr) (far : Int) : (Int × Int) × Int :=
  match openX p [] with
  | .error k => ((0, 0), k)
  | .ok _ => if within far p.near p.far then (match lookX p with | .error k => ((0, 0), k) | .ok w => ((w.1 / far, w.2 / far), 0)) else ((0, 0), 2)


/-! ## The reference -/
theorem Bw9 {a b A B : Int} (ha : -A ≤ a ∧ a ≤ A) (hb : 0 ≤ b) (hb' : b ≤ B) : -(A * B) ≤ a * b ∧ a * b ≤ A * B := by
  have hA : 0 ≤ A := by omega
  have h1 := Int.mul_le_mul_of_nonneg_right ha.2 hb
  have h2 := Int.mul_le_mul_of_nonneg_right ha.1 hb
  have h3 := Int.mul_le_mul_of_nonneg_left hb' hA
  rw [Int.neg_mul] at h2
  omega
def powersR (p : Pr) (t : Th) : Int × Int := if isB (shownS t) && levelS p t then powersS p t (shownS t) else (1, 0)
/-- A power of a thing that stands still: its shift can be shown. -/
theorem AL0 {p : Pr} {t : Th} {w : Int × Int} (h0 : 1 ≤ w.1) (h : isB (nar w (powersR p t)) = true) : isB (shownS t) = true ∧ levelS p t = true ∧ powersR p t = powersS p t (shownS t) := by
  unfold powersR at h ⊢
  split
  · rename_i h1; rw [Bool.and_eq_true] at h1; exact ⟨h1.1, h1.2, rfl⟩
  · rename_i h1; rw [if_neg h1] at h; have h2 : max w.1 1 ≤ min w.2 0 := of_decide_eq_true h; omega
def allL (p : Pr) (w : Int × Int) : List Th → Int × Int
  | [] => w
  | t :: l => if t.far = 0 then allL p w l else allL p (nar w (powersR p t)) l
def powers0 (p : Pr) : Int × Int := (p.focal.lo * p.base.lo, p.focal.hi * p.base.hi)
def allS (p : Pr) : Int × Int := allL p (powers0 p) p.things
/-- It only becomes narrower. -/
theorem Ca0 (a b : Int × Int) : a.1 ≤ (nar a b).1 ∧ (nar a b).2 ≤ a.2 := by simp only [nar]; omega
theorem AN4 (p : Pr) : ∀ (l : List Th) (w : Int × Int), w.1 ≤ (allL p w l).1 ∧ (allL p w l).2 ≤ w.2
  | [], w => by simp [allL]
  | t :: l, w => by
    simp only [allL]
    split
    · exact AN4 p l w
    · have h1 := AN4 p l (nar w (powersR p t))
      have h2 := Ca0 w (powersR p t)
      omega
theorem AT6 (p : Pr) : ∀ (l : List Th) (w : Int × Int), w.1 ≤ w.2 → lookL p w l = if isB (allL p w l) then some (allL p w l) else none
  | [], w, h => by simp [lookL, allL, isB, h]
  | t :: l, w, h => by
    simp only [lookL, allL]
    split
    · exact AT6 p l w h
    · unfold stillS powersR
      split
      · rename_i hc
        cases hb : isB (nar w (powersS p t (shownS t))) with
        | true => simp only [if_true]; exact AT6 p l _ (by simpa [isB] using hb)
        | false =>
          simp only [Bool.false_eq_true, if_false]
          have h1 := AN4 p l (nar w (powersS p t (shownS t)))
          rw [if_neg]
          simp only [isB, decide_eq_false_iff_not, decide_eq_true_eq] at hb ⊢
          omega
      · simp only [Bool.false_eq_true, if_false]
        have h1 := AN4 p l (nar w (1, 0))
        rw [if_neg]
        have h2 : (nar w (1, 0)).1 ≥ 1 ∧ (nar w (1, 0)).2 ≤ 0 := by simp only [nar]; omega
        simp only [isB, decide_eq_true_eq]
        omega
theorem AP3 {p : Pr} (hp : p.Ok) : (powers0 p).1 ≤ (powers0 p).2 ∧ 1 ≤ (powers0 p).1 ∧ (powers0 p).2 ≤ 500000000 := by
  have f1 := hp.f1
  have f2 := hp.f2
  have f3 := hp.f3
  have b1 := hp.b1
  have b2 := hp.b2
  have b3 := hp.b3
  have m2 := AG9 (a := p.focal.hi) (b := p.base.hi) (A := 50000) (B := 10000) (by omega) (by omega) (by omega) (by omega)
  have m1 : 1 * 1 ≤ p.focal.lo * p.base.lo := Int.mul_le_mul f1 b1 (by omega) (by omega)
  have m3 : p.focal.lo * p.base.lo ≤ p.focal.hi * p.base.hi := Int.mul_le_mul f2 b2 (by omega) (by omega)
  simp only [powers0]
  omega
theorem AT7 {p : Pr} (hp : p.Ok) : lookX p = if isB (allS p) then .ok (allS p) else .error 4 := by
  have h := AT6 p p.things (powers0 p) (AP3 hp).1
  unfold lookX
  rw [show lookS p = lookL p (powers0 p) p.things from rfl, h]
  unfold allS
  split <;> rename_i h2 <;> split at h2 <;> simp_all
def thingR (p : Pr) (n : Int) : Bool := within n 0 ((p.things.length : Int) - 1)
theorem Bt9 {p : Pr} {n : Int} (h : thingR p n = true) : ∃ k : Nat, n = k ∧ k < p.things.length := by
  simp only [thingR, within, Bool.and_eq_true, decide_eq_true_eq] at h
  obtain ⟨k, rfl⟩ := Int.eq_ofNat_of_zero_le h.1
  exact ⟨k, rfl, by omega⟩
/-- open of the reference. -/
def openR (p : Pr) (valid : Bool) : (Int × Int) × Int := if isPair p then (if valid then (if isB (allS p) then (allS p, 0) else ((0, 0), 4)) else ((0, 0), 2)) else ((0, 0), 1)
def distR (p : Pr) (n : Int) : (Int × Int) × Int :=
  let s := openR p (thingR p n)
  if s.2 ≠ 0 then ((0, 0), s.2) else
  let t := thingAt p n
  if isB (nar s.1 (powersR p t)) then
    if t.far = 0 then ((max p.near (s.1.1 / ((shownS t).2 + 1) + 1), if 0 < (shownS t).1 then min p.far (s.1.2 / (shownS t).1) else p.far), 0)
    else ((t.far, t.far), 0)
  else ((0, 0), 11)
def nearerR (p : Pr) (a b : Int) : Int × Int := if isPair p then (if thingR p a && thingR p b then (nearerS (thingAt p a) (thingAt p b), 0) else (0, 2)) else (0, 1)
def powerR (p : Pr) : (Int × Int) × Int := openR p true
def standsR (p : Pr) (far : Int) : (Int × Int) × Int := let s := openR p (within far p.near p.far); if s.2 ≠ 0 then ((0, 0), s.2) else ((s.1.1 / far, s.1.2 / far), 0)
end Go.Pw1
namespace Go.Pw1
open Go Go.Eng
def whyS (p : Pr) (t : Th) (w : Int × Int) : Int :=
  if (stillS p t w).2 then 0 else 1 + idxF id [!levelS p t, decide ((shift t).2 < 0), decide (2000 < (shift t).1 ∨ w.2 < (shift t).1 * p.near), true]
def whyX (p : Pr) (n : Int) : Int × Int := match truthsX p [n] with | .error k => (0, k) | .ok w => (whyS p (thingAt p n) w, 0)
def distX (p : Pr) (n : Int) : (Int × Int) × Int :=
  match truthsX p [n] with
  | .error k => ((0, 0), k)
  | .ok w =>
    let t := thingAt p n
    if (stillS p t w).2 then
      if t.far ≠ 0 then ((t.far, t.far), 0) else (nar (p.near, p.far) (w.1 / ((shownS t).2 + 1) + 1, if 0 < (shownS t).1 then w.2 / (shownS t).1 else p.far), 0)
    else ((0, 0), 11)
theorem By8 {α : Type} (f : α → Bool) : ∀ l : List α, idxF f l < l.length ∨ idxF f l = -1
  | [] => by simp [idxF]
  | x :: l => by
    have h := By8 f l
    unfold idxF
    split
    · left; simp only [List.length_cons]; omega
    · split
      · exact .inr rfl
      · left; simp only [List.length_cons]; omega
theorem AW5 {p : Pr} {l : List Int} {w : Int × Int} (h : truthsX p l = .ok w) : p.Ok ∧ openX p l = .ok () ∧ 1 ≤ w.1 ∧ w.1 ≤ w.2 ∧ w.2 ≤ 500000000 := by
  obtain ⟨h1, h2⟩ := Bn9 h
  have hp := Ag8 (Ay3 h1).1
  have h3 := Bx5 hp (w := w) (by unfold lookX; rw [h2])
  exact ⟨hp, h1, h3⟩
theorem Bu1 {p : Pr} {t : Th} {w : Int × Int} (h : (stillS p t w).2 = true) : isB (shownS t) = true ∧ levelS p t = true := by
  unfold stillS at h
  split at h
  · rename_i h1; rw [Bool.and_eq_true] at h1; exact h1
  · cases h
theorem Bm1 {a b : Int} (h0 : 0 ≤ a) (h1 : a ≤ 1000000000000) (hb : 0 < b) : -9223372036854775808 ≤ a / b + 1 ∧ a / b + 1 ≤ 9223372036854775807 := by
  have h2 := Int.ediv_nonneg h0 (Int.le_of_lt hb)
  have h3 := Int.ediv_le_self b h0
  omega
end Go.Pw1
namespace Go.Pw1
open Go Go.Eng
/-! ## Ones, counted -/
def oc1 (s : Nat) : Nat := (s >>> 1 &&& 6148914691236517205) + (s &&& 6148914691236517205)
def oc2 (s : Nat) : Nat := (oc1 s >>> 2 &&& 3689348814741910323) + (oc1 s &&& 3689348814741910323)
def oc3a (s : Nat) : Nat := oc2 s >>> 4 + oc2 s
def oc3 (s : Nat) : Nat := oc3a s &&& 1085102592571150095
def oc4 (s : Nat) : Nat := oc3 s + oc3 s >>> 8
def oc5 (s : Nat) : Nat := oc4 s + oc4 s >>> 16
def oc6 (s : Nat) : Nat := oc5 s + oc5 s >>> 32
def oc (s : Nat) : Nat := oc6 s &&& 127
/-- The ones among the lowest bits. -/
def pc (s : Nat) : Nat → Nat
  | 0 => 0
  | k + 1 => pc s k + s / 2 ^ k % 2
end Go.Pw1
namespace Go.Pw1
open Go Go.Eng

theorem Bw6 (p : Pr) (n : Int) : openX p [n] = if isPair p then (if thingR p n then .ok () else .error 2) else .error 1 := by
  unfold openX thingR
  split
  · cases h : within n 0 ((p.things.length : Int) - 1) <;> simp [h]
  · rfl
theorem Bw5 (p : Pr) (a b : Int) : openX p [a, b] = if isPair p then (if thingR p a && thingR p b then .ok () else .error 2) else .error 1 := by
  unfold openX thingR
  split
  · cases h : within a 0 ((p.things.length : Int) - 1) <;> cases h2 : within b 0 ((p.things.length : Int) - 1) <;> simp [h, h2]
  · rfl
theorem AY8 (p : Pr) : openX p [] = if isPair p then .ok () else .error 1 := by simp [openX]
theorem Be8 (p : Pr) (a b : Int) : nearerX p a b = nearerR p a b := by
  unfold nearerX nearerR
  rw [Bw5]
  cases isPair p <;> cases (thingR p a && thingR p b) <;> simp
theorem Bo0 (p : Pr) (l : List Int) (h : openX p l = if isPair p then .ok () else .error 1) : truthsX p l = if isPair p then (if isB (allS p) then .ok (allS p) else .error 4) else .error 1 := by
  unfold truthsX
  rw [h]
  cases hp : isPair p with
  | false => simp
  | true => simp only [if_true]; exact AT7 (Ag8 hp)
theorem Ax9 (p : Pr) : powerX p = powerR p := by
  unfold powerX powerR openR
  rw [Bo0 p [] (AY8 p)]
  cases isPair p <;> cases isB (allS p) <;> simp
theorem AK4 (p : Pr) (far : Int) : standsX p far = standsR p far := by
  unfold standsX standsR openR
  rw [AY8]
  cases hp : isPair p with
  | false => simp
  | true =>
    simp only [if_true]
    rw [AT7 (Ag8 hp)]
    cases within far p.near p.far <;> cases isB (allS p) <;> simp
theorem BG2 (p : Pr) (t : Th) (w : Int × Int) : (stillS p t w).2 = isB (nar w (powersR p t)) := by
  unfold stillS powersR
  split
  · rfl
  · have h : ¬ (max w.1 1 ≤ min w.2 0) := by omega
    exact (decide_eq_false h).symm
theorem AN3 {p : Pr} (hp : p.Ok) : 1 ≤ (allS p).1 ∧ (allS p).2 ≤ 500000000 := by
  have hb := AP3 hp
  have hle := AN4 p p.things (powers0 p)
  rw [show allL p (powers0 p) p.things = allS p from rfl] at hle
  omega
theorem Bd6 (p : Pr) (n : Int) : truthsX p [n] = if isPair p then (if thingR p n then (if isB (allS p) then .ok (allS p) else .error 4) else .error 2) else .error 1 := by
  unfold truthsX
  rw [Bw6]
  cases hp : isPair p with
  | false => simp
  | true =>
    cases thingR p n with
    | false => simp
    | true => simp only [if_true]; exact AT7 (Ag8 hp)
theorem AM8 (p : Pr) (n : Int) : distX p n = distR p n := by
  unfold distX distR openR
  rw [Bd6]
  cases isPair p with
  | false => simp
  | true =>
    cases thingR p n with
    | false => simp
    | true =>
      cases isB (allS p) with
      | false => simp
      | true =>
        simp only [if_true, BG2, ne_eq, not_true_eq_false, if_false]
        cases isB (nar (allS p) (powersR p (thingAt p n))) with
        | false => simp
        | true =>
          simp only [if_true]
          by_cases h : (thingAt p n).far = 0
          · by_cases h2 : 0 < (shownS (thingAt p n)).1
            · simp [h, h2, nar]
            · simp [h, h2, nar]
          · simp [h]
end Go.Pw1
namespace Go.Pw1
open Go Go.Eng
/-- A number within bounds. -/
def InB (x : Int) (b : Int × Int) : Prop := b.1 ≤ x ∧ x ≤ b.2
theorem AT9 {x : Int} {a b : Int × Int} : InB x (nar a b) ↔ InB x a ∧ InB x b := by simp only [InB, nar]; omega
theorem AB4 {b : Int × Int} : isB b = true ↔ InB b.1 b := by simp only [isB, InB, decide_eq_true_eq]; omega
theorem By6 {b : Int × Int} {x : Int} (h : InB x b) : isB b = true := by simp only [isB, InB, decide_eq_true_eq] at *; omega
/-- The order of sets: by how many they are, then by number. -/
def Le (s u : Nat) : Prop := pc s 12 < pc u 12 ∨ (pc s 12 = pc u 12 ∧ s ≤ u)
theorem Le.refl (s : Nat) : Le s s := .inr ⟨rfl, Nat.le_refl _⟩
theorem Le.trans {a b c : Nat} (h : Le a b) (h2 : Le b c) : Le a c := by unfold Le at *; omega
theorem Le.eq {a b : Nat} (h : Le a b) (h2 : Le b a) : a = b := by unfold Le at *; omega
end Go.Pw1
namespace Go.Pw1
open Go Go.Eng
theorem AD1 {p : Pr} (h : p.Ok) : isPair p = true := by
  obtain ⟨f1, f2, f3, b1, b2, b3, t1, t2, n1, n2, n3, hl, ht⟩ := h
  simp only [isPair, isSpan, within, Bool.and_eq_true, decide_eq_true_eq, Bool.not_eq_true', List.any_eq_false]
  refine ⟨⟨⟨⟨⟨⟨⟨⟨f1, f2⟩, f3⟩, ⟨b1, b2⟩, b3⟩, t1, t2⟩, n1, by omega⟩, n2, n3⟩, by omega⟩, fun t hm => ?_⟩
  obtain ⟨⟨⟨h1, h2, h3⟩, ⟨h4, h5, h6⟩, ⟨h7, h8, h9⟩, ⟨h10, h11, h12⟩⟩, h0⟩ := ht t hm
  simp only [bad, isPlace, isSpan, within, Bool.or_eq_true, Bool.not_eq_true', Bool.and_eq_true, decide_eq_true_eq, Bool.and_eq_false_iff, decide_eq_false_iff_not, not_or, Bool.not_eq_false', not_and]
  omega
theorem BD4 {p : Pr} {x : Int} : ∀ (l : List Th) (w : Int × Int), InB x (allL p w l) ↔ InB x w ∧ ∀ t ∈ l, t.far ≠ 0 → InB x (powersR p t)
  | [], w => by simp [allL]
  | t :: l, w => by
    simp only [allL]
    split
    · rename_i h0
      rw [BD4 l w]
      exact ⟨fun ⟨h1, h2⟩ => ⟨h1, fun u hu hf => by rcases List.mem_cons.1 hu with rfl | hu; exact absurd h0 hf; exact h2 u hu hf⟩, fun ⟨h1, h2⟩ => ⟨h1, fun u hu => h2 u (List.mem_cons_of_mem _ hu)⟩⟩
    · rename_i h0
      rw [BD4 l _, AT9]
      exact ⟨fun ⟨⟨h1, h2⟩, h3⟩ => ⟨h1, fun u hu hf => by rcases List.mem_cons.1 hu with rfl | hu; exact h2; exact h3 u hu hf⟩, fun ⟨h1, h2⟩ => ⟨⟨h1, h2 t (by simp) h0⟩, fun u hu => h2 u (List.mem_cons_of_mem _ hu)⟩⟩
theorem AB7 {p : Pr} {x : Int} : InB x (allS p) ↔ InB x (powers0 p) ∧ ∀ t ∈ p.things, t.far ≠ 0 → InB x (powersR p t) := BD4 _ _
theorem At3 {p : Pr} {n : Int} (h : thingR p n = true) : thingAt p n ∈ p.things := by
  obtain ⟨k, rfl, hk⟩ := Bt9 h
  rw [Ae6 hk rfl]
  exact List.getElem_mem hk
/-- What is known of a thing of a valid pair that stands still. -/
structure Stl (p : Pr) (t : Th) (a1 a2 z1 z2 : Int) : Prop where
  s0 : 0 ≤ a1
  s1 : a1 ≤ a2
  s2 : a2 ≤ 2000
  e1 : powersR p t = (a1 * z1, (a2 + 1) * z2 - 1)
  le1 : 2000 ≤ z1
  le2 : z1 ≤ z2
  mark : t.far ≠ 0 → z1 = t.far ∧ z2 = t.far
  other : t.far = 0 → z1 = p.near ∧ z2 = p.far
theorem BN2 {p : Pr} (hp : p.Ok) {t : Th} (ht : t ∈ p.things) {x : Int} (hx : 1 ≤ x) (h : InB x (powersR p t)) : ∃ z1 z2, Stl p t (shownS t).1 (shownS t).2 z1 z2 ∧ isB (shownS t) = true ∧ levelS p t = true := by
  have hn : isB (shownS t) = true ∧ levelS p t = true := by
    cases hb : isB (shownS t) && levelS p t with
    | true => rw [Bool.and_eq_true] at hb; exact hb
    | false =>
      unfold powersR at h
      rw [if_neg (by rw [hb]; simp)] at h
      simp only [InB] at h
      omega
  have hb := At7 hn.1
  have hth := hp.ths t ht
  have n1 := hp.n1
  have n2 := hp.n2
  have he : powersR p t = powersS p t (shownS t) := by unfold powersR; rw [if_pos (by rw [hn.1, hn.2]; rfl)]
  by_cases h0 : t.far = 0
  · refine ⟨p.near, p.far, ⟨hb.1, hb.2.1, hb.2.2, ?_, n1, n2, fun h => absurd h0 h, fun _ => ⟨rfl, rfl⟩⟩, hn⟩
    rw [he]; unfold powersS; rw [if_pos h0]
  · refine ⟨t.far, t.far, ⟨hb.1, hb.2.1, hb.2.2, ?_, by rcases hth.2 with h | h <;> omega, Int.le_refl _, fun _ => ⟨rfl, rfl⟩, fun h => absurd h h0⟩, hn⟩
    rw [he]; unfold powersS; rw [if_neg h0]
/-- The distances of a thing that stands still. -/
def farS (p : Pr) (t : Th) (w : Int × Int) : Int × Int :=
  if t.far = 0 then (max p.near (w.1 / ((shownS t).2 + 1) + 1), if 0 < (shownS t).1 then min p.far (w.2 / (shownS t).1) else p.far) else (t.far, t.far)
theorem AU5 {p : Pr} {n : Int} (h : (distX p n).2 = 0) : p.Ok ∧ thingR p n = true ∧ isB (allS p) = true ∧ isB (nar (allS p) (powersR p (thingAt p n))) = true ∧ (distX p n).1 = farS p (thingAt p n) (allS p) := by
  rw [AM8] at h ⊢
  unfold distR openR at h ⊢
  cases hp : isPair p with
  | false => simp [hp] at h
  | true =>
    cases ht : thingR p n with
    | false => simp [hp, ht] at h
    | true =>
      cases ha : isB (allS p) with
      | false => simp [hp, ht, ha] at h
      | true =>
        simp only [hp, ht, ha, if_true, ne_eq, not_true_eq_false, if_false] at h ⊢
        cases hb : isB (nar (allS p) (powersR p (thingAt p n))) with
        | false => simp [hb] at h
        | true =>
          refine ⟨Ag8 hp, by first | rfl | trivial, by first | rfl | trivial, by first | rfl | trivial, ?_⟩
          simp only [if_true, farS]
          split <;> rfl
theorem By7 {a b : Int × Int} (h : isB (nar a b) = true) : ∃ x, InB x a ∧ InB x b := ⟨_, AT9.1 (AB4.1 h)⟩
theorem Bi9 {a b : Th} (h : (shift b).2 < (shift a).1) (hb : 0 ≤ (shownS b).2) : (shownS b).2 < (shownS a).1 := by
  simp only [shownS, nar] at *
  omega
theorem AZ7 {a b c : Int} (hc : 0 < c) : a ≤ b / c ↔ a * c ≤ b := Int.le_ediv_iff_mul_le hc
theorem Bb1 {a b c : Int} (hc : 0 < c) : b / c < a ↔ b < a * c := Int.ediv_lt_iff_lt_mul hc
theorem BI5 {a b c : Int} (hc : 0 ≤ c) (h : a ≤ b) : a * c ≤ b * c := Int.mul_le_mul_of_nonneg_right h hc
/-! ## Nearer -/
theorem AL7 {a b : Th} : nearerS a b = 2 ↔ (shift b).2 < (shift a).1 := by unfold nearerS; split <;> (try split) <;> omega
end Go.Pw1
namespace Go.Pw1
open Go Go.Eng
theorem By3 {p : Pr} {t : Th} (hw : isB (allS p) = true) (hm : t ∈ p.things) (hf : t.far ≠ 0) : isB (nar (allS p) (powersR p t)) = true :=
  By6 (AT9.2 ⟨AB4.1 hw, (AB7.1 (AB4.1 hw)).2 t hm hf⟩)
end Go.Pw1
namespace Go.Pw1
open Go Go.Eng
/-- The pair in which thing n is a landmark that is so far away, or none. -/
def markP (p : Pr) (n : Nat) (z : Int) : Pr := { p with things := p.things.set n { thingAt p n with far := z } }
theorem Bx0 {p : Pr} (hp : p.Ok) {n : Nat} (hn : n < p.things.length) {z : Int} (h1 : p.near ≤ z) (h2 : z ≤ p.far) : (markP p n z).Ok := by
  obtain ⟨f1, f2, f3, b1, b2, b3, t1, t2, n1, n2, n3, hl, ht⟩ := hp
  refine ⟨f1, f2, f3, b1, b2, b3, t1, t2, n1, n2, n3, by simpa [markP] using hl, fun t hm => ?_⟩
  have hta : thingAt p (n : Int) ∈ p.things := by rw [Ae6 hn rfl]; exact List.getElem_mem hn
  rcases List.mem_or_eq_of_mem_set hm with hm | rfl
  · exact ht t hm
  · exact ⟨(ht _ hta).1, .inr ⟨h1, h2⟩⟩
theorem AX8 (p : Pr) (n : Nat) (z : Int) : powers0 (markP p n z) = powers0 p := rfl
theorem Bq7 {α : Type} {l : List α} {n : Nat} {a : α} {P : α → Prop} (hn : n < l.length) : (∀ x ∈ l.set n a, P x) ↔ (∀ i (h : i < l.length), i ≠ n → P l[i]) ∧ P a := by
  constructor
  · intro h
    refine ⟨fun i hi hne => h _ ?_, h a ?_⟩
    · rw [List.mem_iff_getElem]
      exact ⟨i, by simpa using hi, by rw [List.getElem_set_ne (Ne.symm hne)]⟩
    · rw [List.mem_iff_getElem]
      exact ⟨n, by simpa using hn, by simp⟩
  · rintro ⟨h1, h2⟩ x hx
    rw [List.mem_iff_getElem] at hx
    obtain ⟨i, hi, rfl⟩ := hx
    rw [List.getElem_set]
    split
    · exact h2
    · rename_i hne
      exact h1 i (by simpa using hi) (Ne.symm hne)
theorem Bq8 {α : Type} {l : List α} {n : Nat} {P : α → Prop} (hn : n < l.length) : (∀ x ∈ l, P x) ↔ (∀ i (h : i < l.length), i ≠ n → P l[i]) ∧ P l[n] := by
  constructor
  · intro h
    exact ⟨fun i hi _ => h _ (List.getElem_mem hi), h _ (List.getElem_mem hn)⟩
  · rintro ⟨h1, h2⟩ x hx
    rw [List.mem_iff_getElem] at hx
    obtain ⟨i, hi, rfl⟩ := hx
    by_cases he : i = n
    · subst he; exact h2
    · exact h1 i hi he
/-- The powers of the pair with a landmark more: those of the pair that suit it. -/
theorem Bx1 {p : Pr} {n : Nat} (hn : n < p.things.length) (h0 : (thingAt p n).far = 0) {z : Int} (hz : z ≠ 0) {x : Int} : InB x (allS (markP p n z)) ↔ InB x (allS p) ∧ InB x (powersR p { thingAt p n with far := z }) := by
  have hta : p.things[n] = thingAt p n := (Ae6 hn rfl).symm
  rw [AB7, AB7, AX8]
  show _ ∧ (∀ t ∈ p.things.set n _, t.far ≠ 0 → InB x (powersR p t)) ↔ _
  rw [Bq7 hn, Bq8 (P := fun t => t.far ≠ 0 → InB x (powersR p t)) hn, hta]
  constructor
  · rintro ⟨h1, h2, h3⟩
    exact ⟨⟨h1, h2, fun h => absurd h0 h⟩, h3 hz⟩
  · rintro ⟨⟨h1, h2, _⟩, h3⟩
    exact ⟨h1, h2, fun _ => h3⟩
def canS (p : Pr) (n : Nat) (z : Int) : Bool := decide ((powerX (markP p n z)).2 = 0)
theorem Bj5 {p : Pr} (hp : p.Ok) : (powerX p).2 = 0 ↔ isB (allS p) = true := by
  rw [Ax9]
  unfold powerR openR
  rw [AD1 hp]
  cases isB (allS p) <;> simp
theorem Bu9 (t : Th) (z : Int) : shownS { t with far := z } = shownS t := rfl
theorem By1 (p : Pr) (t : Th) (z : Int) : levelS p { t with far := z } = levelS p t := rfl
theorem AL1 {p : Pr} {t : Th} {z : Int} (hz : z ≠ 0) : powersR p { t with far := z } = if isB (shownS t) && levelS p t then ((shownS t).1 * z, ((shownS t).2 + 1) * z - 1) else (1, 0) := by
  unfold powersR
  rw [Bu9, By1]
  unfold powersS
  rw [if_neg hz]
theorem Bg2 {u v p1 p2 : Int} (h1 : 0 < p1) (h2 : p1 ≤ p2) (huv : u ≤ v) (hv : p1 * p1 ≤ v) : u / (p2 + 1) + 1 ≤ v / p1 := by
  have hk : p1 ≤ v / p1 := by rw [AZ7 h1]; exact hv
  have hlt : v < p1 * (v / p1) + p1 := by
    have := Int.emod_lt_of_pos v h1
    have h3 := Int.mul_ediv_add_emod v p1
    omega
  have : u / (p2 + 1) < v / p1 := by
    rw [Bb1 (by omega)]
    have h5 := Int.mul_le_mul_of_nonneg_left (show p1 + 1 ≤ p2 + 1 by omega) (show 0 ≤ v / p1 by omega)
    have h6 : v / p1 * (p1 + 1) = p1 * (v / p1) + v / p1 := by rw [Int.mul_add, Int.mul_comm]; omega
    omega
  omega
/-- A thing that stands still, and is no landmark, can be so far away just if this is within its distances. -/
theorem BX1 {p : Pr} (hp : p.Ok) (hw : isB (allS p) = true) {n : Nat} (hn : n < p.things.length) (h0 : (thingAt p n).far = 0) {z : Int} (h1 : p.near ≤ z) (h2 : z ≤ p.far) :
    canS p n z = true ↔ isB (nar (allS p) (powersR p (thingAt p n))) = true ∧ InB z (farS p (thingAt p n) (allS p)) := by
  have n1 := hp.n1
  have n2 := hp.n2
  obtain ⟨w1, w2⟩ := AN3 hp
  have wi := (AB4.1 hw).2
  have hm : thingAt p n ∈ p.things := by rw [Ae6 hn rfl]; exact List.getElem_mem hn
  unfold canS
  rw [decide_eq_true_eq, Bj5 (Bx0 hp hn h1 h2)]
  constructor
  · intro hb
    obtain ⟨hx, hx2⟩ := (Bx1 hn h0 (show z ≠ 0 by omega)).1 (AB4.1 hb)
    generalize (allS (markP p n z)).1 = x at hx hx2
    rw [AL1 (by omega)] at hx2
    by_cases hs : (isB (shownS (thingAt p n)) && levelS p (thingAt p n)) = true
    · rw [if_pos hs] at hx2
      have hb := At7 (Bool.and_eq_true _ _ ▸ hs).1
      have he : powersR p (thingAt p n) = ((shownS (thingAt p n)).1 * p.near, ((shownS (thingAt p n)).2 + 1) * p.far - 1) := by
        unfold powersR powersS
        rw [if_pos hs, if_pos h0]
      unfold farS
      rw [if_pos h0, he]
      have hxA := hx
      simp only [InB] at hx hx2 ⊢
      generalize (shownS (thingAt p n)).1 = p1 at *
      generalize (shownS (thingAt p n)).2 = p2 at *
      generalize (allS p).1 = u at *
      generalize (allS p).2 = v at *
      have m1 := Int.mul_le_mul_of_nonneg_left h1 hb.1
      have m2 := Int.mul_le_mul_of_nonneg_left h2 (show 0 ≤ p2 + 1 by omega)
      refine ⟨By6 (x := x) (AT9.2 ⟨hxA, by simp only [InB]; omega⟩), ?_, ?_⟩
      · have : u / (p2 + 1) < z := by rw [Bb1 (by omega), Int.mul_comm]; omega
        omega
      · split
        · have : z ≤ v / p1 := by rw [AZ7 (by omega), Int.mul_comm]; omega
          omega
        · exact h2
    · rw [if_neg hs] at hx2
      simp only [InB] at hx hx2
      omega
  · rintro ⟨hst, hz⟩
    obtain ⟨x, hx, hx2⟩ := By7 hst
    obtain ⟨z1, z2, st, hb, hlv⟩ := BN2 hp hm (by simp only [InB] at hx; omega) hx2
    unfold farS at hz
    rw [if_pos h0] at hz
    have s0 := st.s0
    have s1 := st.s1
    have s2 := st.s2
    have hpr : powersR p { thingAt p n with far := z } = ((shownS (thingAt p n)).1 * z, ((shownS (thingAt p n)).2 + 1) * z - 1) := by
      rw [AL1 (by omega), if_pos (by rw [hb, hlv]; rfl)]
    have key : ∀ y, y = max (allS p).1 ((shownS (thingAt p n)).1 * z) → InB y (allS p) ∧ InB y (powersR p { thingAt p n with far := z }) := by
      intro y hy
      rw [hpr]
      simp only [InB] at hz ⊢
      generalize (shownS (thingAt p n)).1 = p1 at *
      generalize (shownS (thingAt p n)).2 = p2 at *
      generalize (allS p).1 = u at *
      generalize (allS p).2 = v at *
      have g1 : u / (p2 + 1) < z := by omega
      rw [Bb1 (by omega), Int.mul_comm] at g1
      have g2 : p1 * z ≤ v := by
        by_cases hp1 : 0 < p1
        · rw [if_pos hp1] at hz
          have : z ≤ v / p1 := by omega
          rw [AZ7 hp1, Int.mul_comm] at this
          exact this
        · rw [show p1 = 0 by omega]; omega
      have g3 : p1 * z ≤ (p2 + 1) * z - 1 := by
        have := BI5 (c := z) (by omega) (show p1 ≤ p2 by omega)
        have e : (p2 + 1) * z = p2 * z + z := by rw [Int.add_mul]; omega
        omega
      omega
    exact By6 ((Bx1 hn h0 (show z ≠ 0 by omega)).2 (key _ rfl))
/-- The distances of a thing that stands still are some. -/
theorem BK8 {p : Pr} (hp : p.Ok) (hw : isB (allS p) = true) {t : Th} (hm : t ∈ p.things) (h0 : t.far = 0) (hst : isB (nar (allS p) (powersR p t)) = true) :
    p.near ≤ (farS p t (allS p)).1 ∧ (farS p t (allS p)).1 ≤ (farS p t (allS p)).2 ∧ (farS p t (allS p)).2 ≤ p.far := by
  have n1 := hp.n1
  have n2 := hp.n2
  obtain ⟨w1, w2⟩ := AN3 hp
  have wi := (AB4.1 hw).2
  obtain ⟨x, hx, hx2⟩ := By7 hst
  obtain ⟨z1, z2, st, hb, hlv⟩ := BN2 hp hm (by simp only [InB] at hx; omega) hx2
  obtain ⟨rfl, rfl⟩ := st.other h0
  rw [st.e1] at hx2
  have s0 := st.s0
  have s1 := st.s1
  have s2 := st.s2
  unfold farS
  rw [if_pos h0]
  simp only [InB] at hx hx2
  generalize (shownS t).1 = p1 at *
  generalize (shownS t).2 = p2 at *
  generalize (allS p).1 = u at *
  generalize (allS p).2 = v at *
  have g1 : u / (p2 + 1) < p.far := by rw [Bb1 (by omega), Int.mul_comm]; omega
  refine ⟨by omega, ?_, ?_⟩
  · split
    · rename_i hp1
      have g2 : p.near ≤ v / p1 := by rw [AZ7 hp1, Int.mul_comm]; omega
      have m := Int.mul_le_mul_of_nonneg_left (show p1 ≤ p.near by omega) s0
      have g3 := Bg2 (u := u) hp1 s1 wi (by omega)
      omega
    · omega
  · split <;> omega
theorem Bg3 {p : Pr} (hp : p.Ok) {n : Int} (ht : thingR p n = true) (hw : isB (allS p) = true) : distX p n = if isB (nar (allS p) (powersR p (thingAt p n))) then (farS p (thingAt p n) (allS p), 0) else ((0, 0), 11) := by
  rw [AM8]
  unfold distR openR farS
  rw [AD1 hp, ht, hw]
  simp only [if_true, ne_eq, not_true_eq_false, if_false]
  split
  · split <;> rfl
  · rfl
end Go.Pw1
namespace Go.Bk
open Go Go.Eng
def within (n lo hi : Int) : Bool := decide (lo ≤ n) && decide (n ≤ hi)
def needX (b : Bool) (e : Int) : Except Int Value := if b then .ok (.tuple #[]) else .error e
theorem Ai5 {b : Bool} {e : Int} {v : Value} (h : needX b e = .ok v) : b = true ∧ v = .tuple #[] := by
  cases b <;> simp [needX] at h ⊢
  exact h.symm
theorem Ah0 {b : Bool} {e k : Int} (h : needX b e = .error k) : b = false ∧ k = e := by
  cases b <;> simp [needX] at h ⊢
  exact h.symm
structure Sp where
  lo : Int
  hi : Int
deriving DecidableEq
def Sp.cells (s : Sp) : List Value := [.int .i64 s.lo, .int .i64 s.hi]
structure Tr where
  dawn : Int
  fr : List Sp
  ways : List (List Sp)
  stay : List Sp
  light : List Sp
structure Ln where
  kind : Int
  card : Int
  person : Int
  slot : Int
deriving DecidableEq
def Ln.cells (l : Ln) : List Value := [.int .i64 l.kind, .int .i64 l.card, .int .i64 l.person, .int .i64 l.slot]
structure Cb where
  slots : Int
  homes : List Int
  wrong : Int
  loans : List Ln
structure Tm where
  first : Int
  upto : Int
  beyond : Int
deriving DecidableEq
def Tm.cells (t : Tm) : List Value := [.int .i64 t.first, .int .i64 t.upto, .int .i64 t.beyond]
structure Rp where
  agent : Int
  kind : Int
  first : Int
  last : Int
deriving DecidableEq
def Rp.cells (t : Rp) : List Value := [.int .i64 t.agent, .int .i64 t.kind, .int .i64 t.first, .int .i64 t.last]
structure Ry where
  terms : List Tm
  prices : List Int
  shares : List (List Int)
  reports : List Rp
  paid : List Int
structure Pt where
  size : Sp
  wide : Sp
  marks : Int
deriving DecidableEq
def Pt.cells (p : Pt) : List Value := [.int .i64 p.size.lo, .int .i64 p.size.hi, .int .i64 p.wide.lo, .int .i64 p.wide.hi, .int .i64 p.marks]
structure Ps where
  cards : List Pt
  less : Sp
  loss : Sp
/-! ## What is valid -/
/-! ## Texts -/
end Go.Bk
namespace Go.Bk
open Go Go.Eng Go.RowKit
/-- A list that lies somewhere. -/
structure SA (α : Type) where
  l : List α
  q : Option Addr
  b : Nat
  o : Nat
  c : Nat
def SA.v {α : Type} (s : SA α) : Value := .slice s.q s.l.length s.c
def SA.cell {α : Type} (s : SA α) : List Value := [s.v]
def intC (n : Int) : List Value := [.int .i64 n]
def SA.ok {α : Type} (s : SA α) (f : α → List Value) (sz : Nat) (W : World) : Prop := Sl W s.q s.b s.o sz (s.l.map f)
theorem SA.ok.mono0 {α : Type} {s : SA α} {f : α → List Value} {sz : Nat} {W w : World} {news : Blks} (h : s.ok f sz W) (hz : 0 < sz) (hm : Mem W [] news w) : s.ok f sz w := Sl.mono h hz hm (by simp)
end Go.Bk
namespace Go.Bk
open Go Go.Eng Go.RowKit
structure TrA where
  dawn : Int
  fr : SA Sp
  ways : SA (SA Sp)
  stay : SA Sp
  light : SA Sp
def TrA.cells (t : TrA) : List Value := [.int .i64 t.dawn, t.fr.v, t.ways.v, t.stay.v, t.light.v]
def TrA.v (t : TrA) : Value := .agg t.cells.toArray
def TrA.pl (t : TrA) : Tr := ⟨t.dawn, t.fr.l, t.ways.l.map (·.l), t.stay.l, t.light.l⟩
structure TrOk (W : World) (t : TrA) : Prop where
  fr : t.fr.ok Sp.cells 2 W
  ways : t.ways.ok SA.cell 1 W
  rows : ∀ x ∈ t.ways.l, x.ok Sp.cells 2 W
  stay : t.stay.ok Sp.cells 2 W
  light : t.light.ok Sp.cells 2 W
  wq : t.ways.q = none → t.ways.l.length = 0 ∧ t.ways.c = 0
theorem TrOk.mono0 {W w : World} {t : TrA} {news : Blks} (h : TrOk W t) (hm : Mem W [] news w) : TrOk w t :=
  ⟨h.fr.mono0 (by decide) hm, h.ways.mono0 (by decide) hm, fun x hx => (h.rows x hx).mono0 (by decide) hm, h.stay.mono0 (by decide) hm, h.light.mono0 (by decide) hm, h.wq⟩
structure TrSm (t : TrA) : Prop where
  fr : t.fr.l.length ≤ 10000
  ways : t.ways.l.length ≤ 10000
  rows : ∀ x ∈ t.ways.l, x.l.length ≤ 10000
  stay : t.stay.l.length ≤ 10000
  light : t.light.l.length ≤ 10000
def TrA.all (t : TrA) : List (SA Sp) := t.ways.l ++ [t.fr, t.stay, t.light]
theorem TrOk.all {W : World} {t : TrA} (h : TrOk W t) : ∀ x ∈ t.all, x.ok Sp.cells 2 W := fun x hx => by
  rcases List.mem_append.1 hx with hx | hx
  · exact h.rows x hx
  · simp only [List.mem_cons, List.not_mem_nil, or_false] at hx
    rcases hx with rfl | rfl | rfl
    · exact h.fr
    · exact h.stay
    · exact h.light
theorem TrSm.all {t : TrA} (h : TrSm t) : ∀ x ∈ t.all, x.l.length ≤ 10000 := fun x hx => by
  rcases List.mem_append.1 hx with hx | hx
  · exact h.rows x hx
  · simp only [List.mem_cons, List.not_mem_nil, or_false] at hx
    rcases hx with rfl | rfl | rfl
    · exact h.fr
    · exact h.stay
    · exact h.light
structure CbA where
  slots : Int
  homes : SA Int
  wrong : Int
  loans : SA Ln
def CbA.cells (c : CbA) : List Value := [.int .i64 c.slots, c.homes.v, .int .i64 c.wrong, c.loans.v]
def CbA.v (c : CbA) : Value := .agg c.cells.toArray
def CbA.pl (c : CbA) : Cb := ⟨c.slots, c.homes.l, c.wrong, c.loans.l⟩
structure CbOk (W : World) (c : CbA) : Prop where
  homes : c.homes.ok intC 1 W
  loans : c.loans.ok Ln.cells 4 W
theorem CbOk.mono0 {W w : World} {t : CbA} {news : Blks} (h : CbOk W t) (hm : Mem W [] news w) : CbOk w t := ⟨h.homes.mono0 (by decide) hm, h.loans.mono0 (by decide) hm⟩
structure RyA where
  terms : SA Tm
  prices : SA Int
  shares : SA (SA Int)
  reports : SA Rp
  paid : SA Int
def RyA.cells (r : RyA) : List Value := [r.terms.v, r.prices.v, r.shares.v, r.reports.v, r.paid.v]
def RyA.v (r : RyA) : Value := .agg r.cells.toArray
def RyA.pl (r : RyA) : Ry := ⟨r.terms.l, r.prices.l, r.shares.l.map (·.l), r.reports.l, r.paid.l⟩
structure RyOk (W : World) (r : RyA) : Prop where
  terms : r.terms.ok Tm.cells 3 W
  prices : r.prices.ok intC 1 W
  shares : r.shares.ok SA.cell 1 W
  rows : ∀ x ∈ r.shares.l, x.ok intC 1 W
  reports : r.reports.ok Rp.cells 4 W
  paid : r.paid.ok intC 1 W
theorem RyOk.mono0 {W w : World} {t : RyA} {news : Blks} (h : RyOk W t) (hm : Mem W [] news w) : RyOk w t :=
  ⟨h.terms.mono0 (by decide) hm, h.prices.mono0 (by decide) hm, h.shares.mono0 (by decide) hm, fun x hx => (h.rows x hx).mono0 (by decide) hm, h.reports.mono0 (by decide) hm, h.paid.mono0 (by decide) hm⟩
structure PsA where
  cards : SA Pt
  less : Sp
  loss : Sp
def PsA.cells (p : PsA) : List Value := [p.cards.v, .int .i64 p.less.lo, .int .i64 p.less.hi, .int .i64 p.loss.lo, .int .i64 p.loss.hi]
def PsA.v (p : PsA) : Value := .agg p.cells.toArray
def PsA.pl (p : PsA) : Ps := ⟨p.cards.l, p.less, p.loss⟩
end Go.Bk
namespace Go.Bk
open Go Go.Eng Go.RowKit
end Go.Bk
