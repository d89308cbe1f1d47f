/- The engine, said inside a fence that may stand in the round of a range over a function: for the body of a round, and for the iterator. No program is in sight. -/
import Derived.RangeFuncWrites
import Derived.RangeFuncLeaves
import Derived.RangeFuncCalls
import Derived.RangeFuncBound
import Derived.LoopNIn
import Derived.Test.YthoheicppmbepaaMore
namespace Go.Eng
open Go Go.RowKit

def Fr (ro : Option Nat) : Fence := { fn := fun _ => True, depth := none, alive := false, round := ro }
theorem Fr_none : Fr none = Fence.wide := rfl
theorem Fr_some (l : Nat) : Fr (some l) = Fence.wide.inRound l := rfl
def notDefer (o : Oper) : Bool := match o.op with
  | .defer _ => false
  | _ => true
theorem notDefer_spec {o : Oper} (h : notDefer o = true) : ∀ c, o.op ≠ .defer c := fun c e => by simp [notDefer, e] at h

section
variable {ro : Option Nat} {P : Program} {ops : Array Oper} {Q : Exit → Act → World → Prop} {n : Nat} {r : Regs} {ds : List Deferred} {W : World} {chg news : Blks} {rest : List Oper}
variable {d : Nat}

def RunCR (ro : Option Nat) (P : Program) (Q : Exit → Act → World → Prop) (n : Nat) (c : Code) (r : Regs) (ds : List Deferred) (W : World) (chg news : Blks) : Prop :=
  ∀ a w, St n r ds W chg news a w → c.wpIn (Fr ro) 9 P Q a w
def RunLR (ro : Option Nat) (P : Program) (ops : Array Oper) (Q : Exit → Act → World → Prop) (n : Nat) (l : List Oper) (r : Regs) (ds : List Deferred) (W : World) (chg news : Blks) : Prop :=
  ∀ a w, St n r ds W chg news a w → wpListIn (Fr ro) 9 P ops Q l a w

/-- What holds at the wide fence. -/
theorem RunCR.of {c : Code} (h : RunC P Q n c r ds W chg news) : RunCR none P Q n c r ds W chg news := fun a w s => wpIn_wide.2 (h a w s)
theorem RunCR.to {c : Code} (h : RunCR none P Q n c r ds W chg news) : RunC P Q n c r ds W chg news := fun a w s => wpIn_wide.1 (h a w s)
theorem RunCR.seq {x y : Code} (h : RunCR ro P (Exit.then (y.wpIn (Fr ro) 9 P Q) Q) n x r ds W chg news) : RunCR ro P Q n (.seq x y) r ds W chg news := fun a w s => wpIn_seq (h a w s)
theorem RunCR.block {id : Nat} {c : Code} (h : RunCR ro P (Exit.inBlock id Q) n c r ds W chg news) : RunCR ro P Q n (.block id c) r ds W chg news := fun a w s => wpIn_block (h a w s)
theorem RunCR.skip (h : RunE Q n .normal r ds W chg news) : RunCR ro P Q n .skip r ds W chg news := fun a w s => wpIn_skip (h a w s)
theorem RunCR.exit {id : Nat} (h : RunE Q n (.exit id) r ds W chg news) : RunCR ro P Q n (.exit id) r ds W chg news := fun a w s => wpIn_exit (h a w s)
theorem RunCR.ret (h : RunE Q n .ret r ds W chg news) : RunCR ro P Q n .ret r ds W chg news := fun a w s => wpIn_ret (h a w s)
theorem RunCR.cond {c : Operand} {x y : Code} {t : Bool} (hc : rev r c = some (.bool t)) (ht : t = true → RunCR ro P Q n x r ds W chg news) (hf : t = false → RunCR ro P Q n y r ds W chg news) :
    RunCR ro P Q n (.cond c x y) r ds W chg news := fun a w s => by
  refine wpIn_cond (s.agree.eval hc) ?_
  cases t
  · exact hf rfl a w s
  · exact ht rfl a w s
theorem RunCR.region {id : Nat} {l : List Oper} (h : RunLR ro P l.toArray Q n l r ds W chg news) : RunCR ro P Q n (.region id l.toArray false) r ds W chg news := fun a w s => wpIn_region_lit (h a w s)
theorem RunLR.nil (h : RunE Q n .normal r ds W chg news) : RunLR ro P ops Q n [] r ds W chg news := fun a w s => h a w s
theorem RunER.next {y : Code} {Q' : Exit → Act → World → Prop} (h : RunCR ro P Q n y r ds W chg news) : RunE (Exit.then (y.wpIn (Fr ro) 9 P Q) Q') n .normal r ds W chg news := fun a w s => h a w s

theorem wpListIn_yes {a : Act} {w : World} {o : Oper} (hw : Region.wanted o (yielded ops a.tmps) = true) (hnd : notDefer o = true)
    (h : ∀ K : Act → World → Prop, (∀ a w, wpListIn (Fr ro) 9 P ops Q rest a w → K a w) → o.uponIn (Fr ro) 9 P a K Q ((execOp a.eval o).run P w)) : wpListIn (Fr ro) 9 P ops Q (o :: rest) a w :=
  wpListIn_step fun K hK => by
    rw [if_pos hw]
    refine ⟨fun _ _ => trivial, ?_⟩
    rw [Oper.semAt_eq _ _ _ (notDefer_spec hnd)]
    exact h K hK
theorem RunLR.val {o : Oper} {v : Value} (hv : Val P r W chg news o v) (hg : guardB ops r o.guard = some true) (hd : o.dst = some d) (hn : Nat.ble (d + 1) n = true)
    (h : RunLR ro P ops Q n rest ((d, v) :: r) ds W chg news) (hnd : notDefer o = true := by rfl) : RunLR ro P ops Q n (o :: rest) r ds W chg news := fun a w s =>
  wpListIn_yes (guardB_spec s.agree hg) hnd fun K hK => by
    rw [hv.run a w s.agree s.mem, Oper.uponIn_value, hd]
    exact hK _ _ (h _ _ (s.put (Nat.le_of_ble_eq_true hn) v))
theorem RunLR.no {o : Oper} (hg : guardB ops r o.guard = some false) (hd : o.dst = some d) (hn : Nat.ble (d + 1) n = true)
    (h : RunLR ro P ops Q n rest ((d, undef) :: r) ds W chg news) : RunLR ro P ops Q n (o :: rest) r ds W chg news := fun a w s =>
  wpListIn_step fun K hK => by
    rw [if_neg (by rw [guardB_spec s.agree hg]; simp)]
    exact ⟨fun _ _ => trivial, hK _ _ (by rw [hd]; exact h _ _ (s.put (Nat.le_of_ble_eq_true hn) undef))⟩
theorem RunLR.new {o : Oper} {v : Nat → Value} {ob : Obj} (hv : New P r W chg news o v ob) (hg : guardB ops r o.guard = some true) (hd : o.dst = some d) (hn : Nat.ble (d + 1) n = true)
    (h : ∀ b, RunLR ro P ops Q n rest ((d, v b) :: r) ds W chg ((b, ob) :: news)) (hnd : notDefer o = true := by rfl) : RunLR ro P ops Q n (o :: rest) r ds W chg news := fun a w s =>
  wpListIn_yes (guardB_spec s.agree hg) hnd fun K hK => by
    rw [hv.run a w s.agree s.mem, Oper.uponIn_value, hd]
    have s2 := s.put (Nat.le_of_ble_eq_true hn) (v w.heap.size)
    exact hK _ _ (h _ _ _ ⟨s2.size, s2.agree, s2.defers, s.mem.alloc ob⟩)
theorem RunLR.sto {o : Oper} {chg' news' : Blks} (hv : Sto P r W chg news o chg' news') (hg : guardB ops r o.guard = some true) (hd : o.dst = none)
    (h : RunLR ro P ops Q n rest r ds W chg' news') (hnd : notDefer o = true := by rfl) : RunLR ro P ops Q n (o :: rest) r ds W chg news := fun a w s =>
  wpListIn_yes (guardB_spec s.agree hg) hnd fun K hK => by
    obtain ⟨w', h1, h2⟩ := hv.run a w s.agree s.mem
    rw [h1, Oper.uponIn_skip, hd]
    exact hK _ _ (h _ _ ⟨s.size, s.agree, s.defers, h2⟩)
theorem RunLR.callP {o : Oper} {f : FuncId} {args : Array Value} {v : Value} (hi : IsCall P r o f args) (hg : guardB ops r o.guard = some true) (hd : o.dst = some d) (hn : Nat.ble (d + 1) n = true)
    (hc : ∀ w, Mem W chg news w → Calls P f args w (Pure v w)) (h : RunLR ro P ops Q n rest ((d, v) :: r) ds W chg news) (hnd : notDefer o = true := by rfl) : RunLR ro P ops Q n (o :: rest) r ds W chg news := fun a w s =>
  wpListIn_yes (guardB_spec s.agree hg) hnd fun K hK => by
    rw [hi.runs a w s.agree, Oper.uponIn_enter]
    refine ⟨fun h => (by cases h), ?_⟩
    have hc' : CallsIn Fence.wide 8 P f args w (Pure v w) := callsIn_wide.2 (hc w s.mem)
    have hc2 : CallsIn (Fr ro) 8 P f args w (Pure v w) := by
      cases ro with
      | none => exact hc'
      | some l => exact CallsIn.inRound l hc'
    refine hc2.mono ?_
    rintro e w' ⟨rfl, hm⟩
    show K _ _
    rw [hd]
    have s2 := s.put (Nat.le_of_ble_eq_true hn) v
    exact hK _ _ (h _ _ ⟨s2.size, s2.agree, s2.defers, s.mem.pass hm⟩)

theorem uponIn_seg {o : Oper} {a : Act} {K K' L : Act → World → Prop} (h : ∀ a w, K a w → K' a w) {x : Result Next} (hh : o.uponIn (Fr ro) 9 P a K (SegQ Q L) x) : o.uponIn (Fr ro) 9 P a K' Q x := by
  cases x with
  | ok nx w' =>
    cases nx <;> simp only [Oper.uponIn] at hh ⊢ <;>
      first
        | exact h _ _ hh
        | exact ⟨hh.1, hh.2.mono (fun e w'' he => by cases e <;> first | exact h _ _ he | exact he)⟩
        | exact ⟨hh.1, RowsIn.mono hh.2 (fun _ _ he => h _ _ he)⟩
        | exact hh
  | halt x w' => cases x <;> simp only [Oper.uponIn] at hh ⊢ <;> exact hh
theorem wpListIn_append {K : Act → World → Prop} {l2 : List Oper} (hK : ∀ a w, K a w → wpListIn (Fr ro) 9 P ops Q l2 a w) : ∀ (l : List Oper) (a : Act) (w : World), wpListIn (Fr ro) 9 P ops (SegQ Q K) l a w → wpListIn (Fr ro) 9 P ops Q (l ++ l2) a w
  | [], a, w, h => hK a w h
  | o :: l, a, w, h => by
    simp only [wpListIn, List.cons_append] at h ⊢
    split
    · rename_i hw
      rw [if_pos hw] at h
      exact ⟨h.1, uponIn_seg (wpListIn_append hK l) h.2⟩
    · rename_i hw
      rw [if_neg hw] at h
      exact ⟨h.1, wpListIn_append hK l _ _ h.2⟩
theorem RunLR.part {l : List Oper} {q : Regs} (k : Nat) (h1 : RunLR ro P ops (SegQ Q (St n q ds W chg news)) n (l.take k) r ds W chg news) (h2 : RunLR ro P ops Q n (l.drop k) q ds W chg news) : RunLR ro P ops Q n l r ds W chg news := by
  have h : RunLR ro P ops Q n (l.take k ++ l.drop k) r ds W chg news := fun a w s => wpListIn_append h2 _ a w (h1 a w s)
  rwa [List.take_append_drop] at h
theorem RunLR.segEnd {q : Regs} {news' : Blks} (hs : Sub q r) (hn : news'.Sublist news) : RunLR ro P ops (SegQ Q (St n q ds W chg news')) n [] r ds W chg news := fun _ _ s => s.sub hs hn
theorem RunLR.andPart {l : List Oper} {b x : Bool} {dj dp : Nat} (k : Nat) (hj : rget r dj = some (.bool b))
    (hyes : b = true → RunLR ro P ops (SegQ Q (St n ((dp, .bool x) :: r) ds W chg news)) n (l.take k) ((dj, .bool true) :: r) ds W chg news)
    (hno : b = false → RunLR ro P ops (SegQ Q (St n ((dp, .bool false) :: r) ds W chg news)) n (l.take k) ((dj, .bool false) :: r) ds W chg news)
    (h2 : RunLR ro P ops Q n (l.drop k) ((dp, .bool (b && x)) :: r) ds W chg news) : RunLR ro P ops Q n l r ds W chg news := by
  refine RunLR.part k ?_ h2
  intro a w s
  cases b with
  | true => exact hyes rfl a w (s.know hj rfl)
  | false => exact hno rfl a w (s.know hj rfl)

/-! ### A call of the round -/
structure IsYield (P : Program) (r : Regs) (o : Oper) (l : Nat) (args : Array Value) : Prop where
  runs : ∀ a w, Agree a r → (execOp a.eval o).run P w = (Instr.yield l args).run P w
theorem isYield_value {x : Operand} {l : Nat} {xs : List Operand} {vs : List Value} {ats : Array TypeId} {dst : Option Tmp} {gd : Option (Nat × Bool)} {ty : TypeId} {pos : String} {after : Array Edge} (hv : rev r x = some (.func (.yield l) #[] #[])) (hx : revs r xs = some vs) :
    IsYield P r { dst, op := .call { callee := .value x, args := xs.toArray, argTypes := ats }, type := ty, pos, after, guard := gd } l vs.toArray :=
  ⟨fun a w ha => by
    have h1 := ha.evals hx
    simp [execOp, resolve, h1, ha.eval hv, Deferred.ofValue, invoke]⟩
/-- The round comes, and the memory is another: what is known of it behind the round is said anew, of the world that it left. -/
theorem RunLR.yield {o : Oper} {l : Nat} {args : Array Value} {RY : Bool → World → Prop} (hi : IsYield P r o l args) (hg : guardB ops r o.guard = some true) (hd : o.dst = some d) (hn : Nat.ble (d + 1) n = true)
    (hy : ∀ w, Mem W chg news w → YieldAt (Fr none) 8 P l args w fun e w' => ∃ b, e = .returned (.bool b) ∧ RY b w')
    (h : ∀ b W', RY b W' → RunLR none P ops Q n rest ((d, .bool b) :: r) ds W' [] []) (hnd : notDefer o = true := by rfl) : RunLR none P ops Q n (o :: rest) r ds W chg news := fun a w s =>
  wpListIn_yes (guardB_spec s.agree hg) hnd fun K hK => by
    obtain ⟨fn, tmps, assign, body, hy1, hy2⟩ := hy w s.mem
    rw [hi.runs a w s.agree, hy1, Oper.uponIn_round]
    refine ⟨fun h => (by cases h), hy2.mono ?_⟩
    rintro e w' ⟨b, rfl, hb⟩
    show K _ _
    rw [hd]
    have s2 := s.put (Nat.le_of_ble_eq_true hn) (.bool b)
    exact hK _ _ (h b w' hb _ _ ⟨s2.size, s2.agree, s2.defers, Mem.refl _⟩)

/-- A loop whose rounds each begin in a world of their own. -/
def RoundW (n : Nat) (ds : List Deferred) (N : Nat) (Inv : Nat → World → Prop) (R : Nat → Regs) (k : Nat) (a : Act) (w : World) : Prop :=
  ∃ k', k < k' ∧ k' ≤ N ∧ Inv k' w ∧ St n (R k') ds w [] [] a w
theorem St.rebase {q : Regs} {a : Act} {w : World} (s : St n r ds W chg news a w) (hs : Sub q r) : St n q ds w [] [] a w := ⟨s.size, s.agree.sub hs, s.defers, Mem.refl w⟩
theorem RunCR.loopW {body : Code} {q : Regs} (N : Nat) (R : Nat → Regs → Regs) (Inv : Nat → World → Prop) (h0 : ∀ w, Mem W chg news w → Inv 0 w) (hs : Sub (R 0 q) r)
    (hb : ∀ k W', k ≤ N → Inv k W' → RunCR ro P (Exit.then (RoundW n ds N Inv (fun k => R k q) k) Q) n body (R k q) ds W' [] []) : RunCR ro P Q n (.loop body) r ds W chg news := by
  have key : ∀ (m k : Nat), N - k < m → k ≤ N → ∀ a w, Inv k w → St n (R k q) ds w [] [] a w → Code.roundsIn (Fr ro) 9 P body Q m a w := by
    intro m
    induction m with
    | zero => intro k h; omega
    | succ m ih =>
      intro k hk hN a w hi s
      rw [roundsIn_succ]
      refine wpIn_mono (hb k w hN hi a w s) ?_
      rintro e a2 w2 hq
      cases e with
      | normal =>
        obtain ⟨k', h1, h2, h3, s2⟩ := hq
        exact ih k' (by omega) h2 a2 w2 h3 s2
      | exit id => exact hq
      | goto l => exact hq
      | ret => exact hq
      | panic c => exact hq
      | outgrown => exact hq
  intro a w s
  exact wpIn_loop_rounds _ (key _ 0 (Nat.lt_succ_self _) (Nat.zero_le _) a w (h0 w s.mem) (s.rebase hs))
theorem RunE.roundW {N : Nat} {Inv : Nat → World → Prop} {R : Nat → Regs} {k : Nat} (hN : k + 1 ≤ N) (hi : ∀ w, Mem W chg news w → Inv (k + 1) w) (hs : Sub (R (k + 1)) r) :
    RunE (Exit.then (RoundW n ds N Inv R k) Q) n .normal r ds W chg news := fun _ w s => ⟨k + 1, Nat.lt_succ_self _, hN, hi w s.mem, s.rebase hs⟩

/-! ### Functions that hold such a loop -/
theorem Mem.grown {w : World} (h : Mem W [] news w) : W.grownBy w none := ⟨h.os, h.tape, h.output, h.size, fun k hk _ => h.old k hk (by simp)⟩
theorem wpIn_any {c : Code} {m k : Nat} {a : Act} {w : World} (h : c.wpIn (Fr ro) m P Q a w) : c.wpIn (Fr ro) k P Q a w := fun b i cs h1 h2 _ => h b i cs h1 h2 (fun _ hd => by cases hd)
theorem callsIn_start {f : FuncId} {fn : Func} {c : Code} {vs : List Value} {R : Ending → World → Prop} (hf : P.funcs[f]? = some fn) (hb : fn.body = some c) (hn : Nat.ble vs.length fn.ntmps = true)
    (h : RunCR none P (bodyPost P fn R) fn.ntmps c (args0 0 vs) [] W [] []) (m : Nat) : CallsIn (Fr none) m P f vs.toArray W R :=
  callsIn_of_wp hf hb trivial (wpIn_any (h _ _ (start_st (Nat.le_of_ble_eq_true hn) (Mem.refl W)))) rfl

/-! ### The loop itself -/
/-- What the body leaves as it was. -/
def KpX (B : Nat) (nm : List Nat) (W W' : World) : Prop := ∀ k, k < B → k ∉ nm → W'.heap[k]? = W.heap[k]?
def BodyQ (W : World) (V : Blks) : Exit → Act → World → Prop
  | .normal, _, w => Mem W V [] w
  | _, _, _ => False
theorem RunE.bodyDone {V : Blks} (hc : chg = V) : RunE (BodyQ W V) n .normal r ds W chg news := fun _ _ s => hc ▸ s.mem.drop
theorem mem_names {l : Blks} {b : Nat} : b ∈ l.map (·.1) ↔ ∃ o, (b, o) ∈ l := by simp
theorem Mem.round {w w' : World} {V V' n0 : Blks} (h : Mem W chg (V ++ n0) w) (h' : Mem w V' [] w') (hm : V'.map (·.1) = V.map (·.1)) : Mem W chg (V' ++ n0) w' := by
  have hV : ∀ b, (∃ o, (b, o) ∈ V') ↔ ∃ o, (b, o) ∈ V := fun b => by rw [← mem_names, ← mem_names, hm]
  have hge : ∀ b o, (b, o) ∈ V' → W.heap.size ≤ b := fun b o hb => by
    obtain ⟨o2, h2⟩ := (hV b).1 ⟨o, hb⟩
    exact (h.newd b o2 (List.mem_append.2 (.inl h2))).1
  have hnd := h.once
  refine ⟨h'.os.trans h.os, h'.tape.trans h.tape, h'.output.trans h.output, Nat.le_trans h.size h'.size, fun k hk hc => ?_, fun b o hb => ?_, fun b o hb => ?_, ?_⟩
  · rw [h'.old k (Nat.lt_of_lt_of_le hk h.size) (fun o ho => by have := hge k o ho; omega)]
    exact h.old k hk hc
  · have h1 := h.chgd b o hb
    refine ⟨h1.1, ?_⟩
    rw [h'.old b (Nat.lt_of_lt_of_le h1.1 h.size) (fun o2 ho => by have := hge b o2 ho; omega)]
    exact h1.2
  · rcases List.mem_append.1 hb with hb | hb
    · exact ⟨hge b o hb, (h'.chgd b o hb).2⟩
    · have h1 := h.newd b o (List.mem_append.2 (.inr hb))
      refine ⟨h1.1, ?_⟩
      rw [h'.old b (h.lt_new (List.mem_append.2 (.inr (List.mem_append.2 (.inr hb))))) (fun o2 ho => ?_)]
      · exact h1.2
      · obtain ⟨o3, h3⟩ := (hV b).1 ⟨o2, ho⟩
        rw [List.map_append, List.map_append, List.nodup_append] at hnd
        have h4 := (List.nodup_append.1 hnd.2.1).2.2 b (mem_names.2 ⟨o3, h3⟩) b (mem_names.2 ⟨o, hb⟩)
        exact h4 rfl
  · have e : (chg ++ (V' ++ n0)).map (·.1) = (chg ++ (V ++ n0)).map (·.1) := by simp [List.map_append, hm]
    rw [e]; exact hnd
theorem Mem.turned {w w' : World} {row : Option Nat} {B : Nat} (h : Mem W chg news w) (hg : w.grownBy w' row) (hr : ∀ k, row = some k → B ≤ k) (hlt : ∀ b o, (b, o) ∈ chg ++ news → b < B) (hW : W.heap.size ≤ B) : Mem W chg news w' := by
  have hne : ∀ k, k < B → some k ≠ row := fun k hk e => by have := hr k e.symm; omega
  refine ⟨hg.os.trans h.os, hg.tape.trans h.tape, hg.output.trans h.output, Nat.le_trans h.size hg.size, fun k hk hc => ?_, fun b o hb => ?_, fun b o hb => ?_, h.once⟩
  · rw [hg.block k (Nat.lt_of_lt_of_le hk h.size) (hne k (by omega))]; exact h.old k hk hc
  · have h1 := h.chgd b o hb
    exact ⟨h1.1, by rw [hg.block b (h.lt_new (List.mem_append.2 (.inl hb))) (hne b (hlt b o (List.mem_append.2 (.inl hb))))]; exact h1.2⟩
  · have h1 := h.newd b o hb
    exact ⟨h1.1, by rw [hg.block b (h.lt_new (List.mem_append.2 (.inr hb))) (hne b (hlt b o (List.mem_append.2 (.inr hb))))]; exact h1.2⟩

/-- 'for x := range seq': the blocks V turn from round to round; all else that was known stays. -/
theorem RunC.rangeFunc {α : Type} {g : Operand} {p q gf N id : Nat} {lb : Array Value} {enc : α → Value} {S : List α → Prop} {oA : Oper} {body : Code} (V : List α → Blks) (n0 : Blks)
    (hg : rev r g = some (.func (.func gf) #[] lb)) (he : Enters P gf) (hn : Pick (V [] ++ n0) news) (hnm : ∀ pre, (V pre).map (·.1) = (V []).map (·.1)) (hcl : ∀ pre b o, (b, o) ∈ V pre → o.isCells = true)
    (hseq : ∀ w, Mem W chg (V [] ++ n0) w → SeqStopsK (Fr none) 8 P gf lb (fun x => #[enc x]) (KpX w.heap.size ((V []).map (·.1))) S (fun _ => True) N w)
    (hp : Nat.ble (p + 1) n = true) (hq : Nat.ble (q + 1) n = true) (hA : ∀ v, pureV ((p, v) :: r) oA.op = some v) (hAg : oA.guard = none) (hAd : oA.dst = some q) (hAn : notDefer oA = true)
    (hbody : ∀ l pre x W1, pre.length < N → Mem W chg (V pre ++ n0) W1 → RunCR (some l) P (BodyQ W1 (V (pre ++ [x]))) n body ((q, enc x) :: (p, enc x) :: r) [] W1 (V pre) [])
    (h : ∀ xs D, S xs → RunE Q n .normal r ({ target := .collected D, args := #[] } :: ds) W chg ((D, .deferred (some [])) :: (V xs ++ n0))) :
    RunC P Q n (.rangeFunc g #[p] (.region id #[oA] false) body) r ds W chg news := fun a w s => by
  have s0 := s.mem.pick hn
  have hlt : ∀ pre b o, (b, o) ∈ chg ++ (V pre ++ n0) → b < w.heap.size := fun pre b o hb => by
    rcases List.mem_append.1 hb with hb | hb
    · exact s0.lt_new (List.mem_append.2 (.inl hb))
    · rcases List.mem_append.1 hb with hb | hb
      · have : b ∈ (V pre).map (·.1) := mem_names.2 ⟨o, hb⟩
        rw [hnm pre] at this
        obtain ⟨o2, h2⟩ := mem_names.1 this
        exact s0.lt_new (List.mem_append.2 (.inr (List.mem_append.2 (.inl h2))))
      · exact s0.lt_new (List.mem_append.2 (.inr (List.mem_append.2 (.inr hb))))
  have hge : ∀ pre b o, (b, o) ∈ V pre → W.heap.size ≤ b := fun pre b o hb => by
    have : b ∈ (V pre).map (·.1) := mem_names.2 ⟨o, hb⟩
    rw [hnm pre] at this
    obtain ⟨o2, h2⟩ := mem_names.1 this
    exact (s0.newd b o2 (List.mem_append.2 (.inl h2))).1
  have hown : OwnFrom w.heap.size (fun (pre : List α) W' => Mem W chg (V pre ++ n0) W' ∧ w.heap.size ≤ W'.heap.size) := fun pre A B row hI hgr hr => ⟨hI.1.turned hgr (fun k e => (hr k e).1) (hlt pre) s0.size, Nat.le_trans hI.2 hgr.size⟩
  refine (wpIn_wide (n := 9)).1 ?_
  show Code.wpIn (Fr none) 9 P _ Q a w
  refine wpIn_rangeFunc_ownG (F := Fr none) (n := 9) rfl (by decide) (s.agree.eval hg) trivial he (hseq w s0) (fun {A B C} h1 h2 k hk hne => (h2 k hk hne).trans (h1 k hk hne)) ?_ (Below.refl _ w) (fun _ => rfl)
    (fun pre W' => Mem W chg (V pre ++ n0) W' ∧ w.heap.size ≤ W'.heap.size) (fun _ _ _ => False) hown (fun _ _ _ _ _ hf _ _ => hf) ⟨s0, Nat.le_refl _⟩ (fun x => ({ tmps := a.tmps.setIfInBounds p (enc x), defers := [] } : Act).put (some q) (enc x)) ?assign ?body ?done ?stop
  · intro W' l o o' hl _ _ _ k hk _
    exact World.putObj_heap_other (by omega)
  case assign =>
    intro l x W' K hK
    have hsz : p < a.tmps.size := by rw [s.size]; exact Nat.le_of_ble_eq_true hp
    have hag : Agree (({ tmps := a.tmps, defers := [] } : Act).put (some p) (enc x)) ((p, enc x) :: r) := Agree.put (a := { tmps := a.tmps, defers := [] }) (fun t u ht => s.agree t u ht) hsz
    have e : (#[p].zip #[enc x]).foldl (fun t (pv : Nat × Value) => t.setIfInBounds pv.1 pv.2) a.tmps = a.tmps.setIfInBounds p (enc x) := by simp
    refine wpIn_region_lit (l := [oA]) (wpListIn_plain hAg fun K2 hK2 => ?_)
    refine ⟨fun _ _ => trivial, ?_⟩
    rw [Oper.semAt_eq _ _ _ (notDefer_spec hAn)]
    have hrun := pureV_sound (P := P) (o := oA) hag (hA (enc x)) W'
    have e2 : (({ tmps := a.tmps, defers := [] } : Act).put (some p) (enc x)) = { tmps := (#[p].zip #[enc x]).foldl (fun t (pv : Nat × Value) => t.setIfInBounds pv.1 pv.2) a.tmps, defers := [] } := by rw [e]; rfl
    rw [e2] at hrun
    rw [hrun, Oper.uponIn_value, hAd]
    refine hK2 _ _ ?_
    show K _ _
    rw [e]
    exact hK
  case body =>
    intro l pre x W1 ⟨hI, hsz1⟩ hlen
    have hsz : p < a.tmps.size := by rw [s.size]; exact Nat.le_of_ble_eq_true hp
    have hsz2 : q < a.tmps.size := by rw [s.size]; exact Nat.le_of_ble_eq_true hq
    have hag : Agree (({ tmps := a.tmps, defers := [] } : Act).put (some p) (enc x)) ((p, enc x) :: r) := Agree.put (a := { tmps := a.tmps, defers := [] }) (fun t u ht => s.agree t u ht) hsz
    have hag2 := hag.put (d := q) (v := enc x) (by simp [Act.put]; exact hsz2)
    have hst : Mem W1 (V pre) [] W1 := ⟨rfl, rfl, rfl, Nat.le_refl _, fun _ _ _ => rfl, fun b o hb => ⟨hI.lt_new (List.mem_append.2 (.inr (List.mem_append.2 (.inl hb)))), (hI.newd b o (List.mem_append.2 (.inl hb))).2⟩, fun _ _ hb => (by cases hb), by
      have := hI.once
      rw [List.map_append, List.map_append, List.nodup_append] at this
      simpa using (List.nodup_append.1 this.2.1).1⟩
    have hb := hbody l pre x W1 hlen hI _ W1 ⟨by simp [Act.put, s.size], hag2, rfl, hst⟩
    refine wpIn_mono (wpIn_any hb) ?_
    intro e a2 w2 hq
    cases e with
    | normal =>
      have hq : Mem W1 (V (pre ++ [x])) [] w2 := hq
      have hnot : ∀ k, k ∉ (V []).map (·.1) → ∀ o, (k, o) ∉ V (pre ++ [x]) := fun k hk o ho => hk (by rw [← hnm (pre ++ [x])]; exact mem_names.2 ⟨o, ho⟩)
      refine ⟨⟨hq.size, fun k o hB hk ho => ?_⟩, fun k hk hne => hq.old k (Nat.lt_of_lt_of_le hk hsz1) (hnot k hne), hI.round hq (by rw [hnm, hnm pre]), Nat.le_trans hsz1 hq.size⟩
      · rw [hq.old k (Array.getElem?_eq_some_iff.1 hk).1 (fun o2 ho2 => ?_)]
        · exact hk
        · have := hlt (pre ++ [x]) k o2 (List.mem_append.2 (.inr (List.mem_append.2 (.inl ho2))))
          omega
    | exit id => exact hq.elim
    | goto l => exact hq.elim
    | ret => exact hq.elim
    | panic c => exact hq.elim
    | outgrown => exact hq.elim
  case done =>
    intro D xs W' hD hS ⟨hI, _⟩ hK
    refine h xs D hS _ W' ⟨s.size, s.agree, by rw [← s.defers], ?_⟩
    refine { hI with newd := fun b o hb => ?_, once := ?_ }
    · rcases List.mem_cons.1 hb with hb | hb
      · cases hb; exact ⟨Nat.le_trans s0.size hD, hK⟩
      · exact hI.newd b o hb
    · have hnd := hI.once
      rw [List.map_append, List.nodup_append] at hnd ⊢
      refine ⟨hnd.1, ?_, ?_⟩
      · rw [List.map_cons, List.nodup_cons]
        refine ⟨fun hm => ?_, hnd.2.1⟩
        obtain ⟨o, ho⟩ := mem_names.1 hm
        have := hlt xs D o (List.mem_append.2 (.inr ho))
        omega
      · intro b hb c hc
        rw [List.map_cons, List.mem_cons] at hc
        rcases hc with rfl | hc
        · obtain ⟨o, ho⟩ := mem_names.1 hb
          have := hlt xs b o (List.mem_append.2 (.inl ho))
          intro e; subst e; omega
        · exact hnd.2.2 b hb c hc
  case stop =>
    intro D c pre W' _ _ hf
    exact hf.elim

/-! ### Leaving such a function: the loop's mark, and one deferred call -/
structure CatchesIn (P : Program) (f : FuncId) (T : TypeId) (mis : Int → Value) : Prop where
  calm : ∀ b w, CallsDIn Fence.wide 8 P f #[.pointer (some ⟨b, 0, none⟩)] .returning w fun e u w' => (∃ v, e = .returned v) ∧ u = .returning ∧ Mem w [] [] w'
  wild : ∀ b k x w, w.heap[b]? = some (.cells #[x] T (0, 0)) → CallsDIn Fence.wide 8 P f #[.pointer (some ⟨b, 0, none⟩)] (.panicking [{ v := mis k, recovered := false }]) w fun e u w' =>
    (∃ v, e = .returned v) ∧ u = .panicking [{ v := mis k, recovered := true }] ∧ Mem w [(b, .cells #[.int .i64 k] T (0, 0))] [] w'
theorem calls_start_marks {f : FuncId} {fn : Func} {c : Code} {vs : List Value} {R : Ending → World → Prop} (hf : P.funcs[f]? = some fn) (hb : fn.body = some c) (hn : Nat.ble vs.length fn.ntmps = true)
    (h : RunC P (bodyPostM Fence.wide 9 P fn R) fn.ntmps c (args0 0 vs) [] W [] []) : Calls P f vs.toArray W R :=
  (callsIn_wide (n := 9)).1 (callsIn_of_wp_marks hf hb trivial (wpIn_wide.2 (h _ _ (start_st (Nat.le_of_ble_eq_true hn) (Mem.refl W)))) rfl)
theorem Mem.putNew {w : World} {D : Nat} {o : Obj} (o' : Obj) (h : Mem W chg ((D, o) :: news) w) : Mem W chg news (w.putObj D o') := by
  have hD := (h.newd D o (List.mem_cons_self ..)).1
  have hnd := h.once
  rw [List.map_append, List.map_cons, List.nodup_append, List.nodup_cons] at hnd
  refine ⟨h.os, h.tape, h.output, by simpa using h.size, fun k hk hc => ?_, fun b o2 hb => ?_, fun b o2 hb => ?_, ?_⟩
  · rw [World.putObj_heap_other (by omega)]; exact h.old k hk hc
  · have h1 := h.chgd b o2 hb
    exact ⟨h1.1, by rw [World.putObj_heap_other (by omega)]; exact h1.2⟩
  · have h1 := h.newd b o2 (List.mem_cons_of_mem _ hb)
    refine ⟨h1.1, ?_⟩
    rw [World.putObj_heap_other (fun e => hnd.2.1.1 (by subst e; exact mem_names.2 ⟨o2, hb⟩))]
    exact h1.2
  · rw [List.map_append, List.nodup_append]
    exact ⟨hnd.1, hnd.2.1.2, fun a ha b hb => hnd.2.2 a ha b (List.mem_cons_of_mem _ hb)⟩
theorem leavesM_calm {fn : Func} {f : FuncId} {T : TypeId} {mis : Int → Value} {v v0 : Value} {b : Nat} (hc : CatchesIn P f T mis) (he : Enters P f) (hv : ResVs P r news fn v) (hv0 : v = v0) {a : Act} {w : World} (hag : Agree a r) (hm : Mem W [] news w) :
    LeavesInM Fence.wide 9 P fn a.tmps (Pure v0 W) [{ target := .fn (.func f) #[], args := #[.pointer (some ⟨b, 0, none⟩)] }] .returning w := by
  refine ⟨by simp, .inr ⟨fun h => (by cases h), _, _, f, #[.pointer (some ⟨b, 0, none⟩)], rfl, by simp [invoke]; exact he _ _, fun _ _ => trivial, (hc.calm b w).mono ?_⟩⟩
  rintro e u w' ⟨⟨x, rfl⟩, rfl, hm'⟩
  have hm2 := hm.pass hm'
  exact ⟨v, hv.run hag (fun _ _ h => hm2.at (by simpa using h)), by rw [hv0], hm2.drop⟩
theorem RunE.retM {fn : Func} {f : FuncId} {T : TypeId} {mis : Int → Value} {v v0 : Value} {b D : Nat} {news2 : Blks} (hc : CatchesIn P f T mis) (he : Enters P f) (ht : Take (D, .deferred (some [])) news news2) (hv : ResVs P r news2 fn v) (hv0 : v = v0) :
    RunE (bodyPostM Fence.wide 9 P fn (Pure v0 W)) n .ret r [{ target := .collected D, args := #[] }, { target := .fn (.func f) #[], args := #[.pointer (some ⟨b, 0, none⟩)] }] W [] news := fun a w s => by
  show LeavesInM _ _ _ _ _ _ a.defers _ w
  rw [s.defers]
  have hm := s.mem.pick (Pick.cons ht rfl (Pick.refl news2))
  exact ⟨by simp, .inl ⟨D, _, rfl, run_takeDeferred (hm.newd D _ (List.mem_cons_self ..)).2, leavesM_calm hc he hv hv0 s.agree (hm.putNew _)⟩⟩
theorem RunE.panM {fn : Func} {f : FuncId} {T : TypeId} {mis : Int → Value} {v v0 x : Value} {b : Nat} {k : Int} {news' : Blks} (hc : CatchesIn P f T mis) (he : Enters P f) (hu : Upd news b (.cells #[x] T (0, 0)) (.cells #[.int .i64 k] T (0, 0)) news') (hv : ResVs P r news' fn v) (hv0 : v = v0) :
    RunE (bodyPostM Fence.wide 9 P fn (Pure v0 W)) n (.panic [{ v := mis k, recovered := false }]) r [{ target := .fn (.func f) #[], args := #[.pointer (some ⟨b, 0, none⟩)] }] W [] news := fun a w s => by
  show LeavesInM _ _ _ _ _ _ a.defers _ w
  rw [s.defers]
  refine ⟨by simp, .inr ⟨fun h => (by cases h), _, _, f, #[.pointer (some ⟨b, 0, none⟩)], rfl, by simp [invoke]; exact he _ _, fun _ _ => trivial, (hc.wild b k x w (s.mem.newd _ _ hu.mem).2).mono ?_⟩⟩
  rintro e u w' ⟨⟨y, rfl⟩, rfl, hm⟩
  have hm2 := s.mem.turn_new hu hm
  exact ⟨v, hv.run s.agree (fun _ _ h => hm2.at (by simpa using h)), by rw [hv0], hm2.drop⟩

theorem RunLR.ways {l : List Oper} {b : Bool} {dj : Nat} (hj : rget r dj = some (.bool b)) (h1 : b = true → RunLR ro P ops Q n l ((dj, .bool true) :: r) ds W chg news) (h2 : b = false → RunLR ro P ops Q n l ((dj, .bool false) :: r) ds W chg news) : RunLR ro P ops Q n l r ds W chg news := fun a w s => by
  cases b with
  | true => exact h1 rfl a w (s.know hj rfl)
  | false => exact h2 rfl a w (s.know hj rfl)
theorem yieldAt_any {m k l : Nat} {args : Array Value} {w : World} {R R' : Ending → World → Prop} (h : YieldAt (Fr none) m P l args w R) (hR : ∀ e w', R e w' → R' e w') : YieldAt (Fr none) k P l args w R' := by
  obtain ⟨fn, tmps, assign, body, h1, h2⟩ := h
  exact ⟨fn, tmps, assign, body, h1, trivial, fun c cs _ => let ⟨e, w', r, s⟩ := h2.2 c cs (fun _ hd => by cases hd); ⟨e, w', hR _ _ r, s⟩⟩
theorem Sl.kp {W W' : World} {p : Option Addr} {b o sz : Nat} {xs : List (List Value)} (h : Sl W p b o sz xs) (hk : xs ≠ [] → W'.heap[b]? = W.heap[b]?) : Sl W' p b o sz xs :=
  ⟨h.at', h.len, fun i hi j hj => by rw [World.cell?_of_block (a := ⟨b, o + i * sz + j, none⟩) (hk (by rintro rfl; simp at hi))]; exact h.cell i hi j hj⟩
theorem Mem.apart {w : World} {V n0 : Blks} (h : Mem W chg (V ++ n0) w) {b : Nat} {o : Obj} (hb : (b, o) ∈ n0) : b < w.heap.size ∧ b ∉ V.map (·.1) := by
  refine ⟨h.lt_new (List.mem_append.2 (.inr (List.mem_append.2 (.inr hb)))), fun hc => ?_⟩
  have hnd := h.once
  rw [List.map_append, List.map_append, List.nodup_append] at hnd
  exact (List.nodup_append.1 hnd.2.1).2.2 b hc b (mem_names.2 ⟨o, hb⟩) rfl
theorem Mem.oldApart {w : World} {V n0 : Blks} (h : Mem W chg (V ++ n0) w) {b : Nat} (hb : b < W.heap.size) : b < w.heap.size ∧ b ∉ V.map (·.1) := by
  refine ⟨Nat.lt_of_lt_of_le hb h.size, fun hc => ?_⟩
  obtain ⟨o, ho⟩ := mem_names.1 hc
  have := (h.newd b o (List.mem_append.2 (.inl ho))).1
  omega
theorem Sl.mono' {w : World} {p : Option Addr} {b o sz : Nat} {xs : List (List Value)} (h : Sl W p b o sz xs) (hz : 0 < sz) (hm : Mem W chg news w) (hc : xs ≠ [] → ∀ ob, (b, ob) ∉ chg) : Sl w p b o sz xs := by
  cases xs with
  | nil => exact ⟨h.at', h.len, fun i hi => by simp at hi⟩
  | cons x xs => exact h.mono hz hm (hc (by simp))
theorem Sl.lt0 {p : Option Addr} {b o sz : Nat} {xs : List (List Value)} (h : Sl W p b o sz xs) (hz : 0 < sz) (hx : xs ≠ []) : b < W.heap.size := h.lt hz (i := 0) (List.length_pos_iff.2 hx)
end
end Go.Eng
