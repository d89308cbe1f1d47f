/- The engine, said inside a fence that may stand in the round of a range over a function: for the body of a round, and for the iterator. No program is in sight. -/
import Derived.Test.YtjijeeadmhpfcaaJ01
import Derived.RangeFuncWrites
import Derived.RangeFuncLeaves
import Derived.RangeFuncCalls
import Derived.RangeFuncBound
import Derived.LoopNIn
namespace Go.Eng
open Go Go.RowKit

def Fr (ro : Option Nat) : Fence := { fn := fun _ => True, depth := none, alive := false, round := ro }
theorem Fr_none : Fr none = Fence.wide := rfl
theorem Fr_some (l : Nat) : Fr (some l) = Fence.wide.inRound l := rfl
def notDefer (o : Oper) : Bool := match o.op with
  | .defer _ => false
  | _ => true
theorem notDefer_spec {o : Oper} (h : notDefer o = true) : ∀ c, o.op ≠ .defer c := fun c e => by simp [notDefer, e] at h

section
variable {ro : Option Nat} {P : Program} {ops : Array Oper} {Q : Exit → Act → World → Prop} {n : Nat} {r : Regs} {ds : List Deferred} {W : World} {chg news : Blks} {rest : List Oper}
variable {d : Nat}

def RunCR (ro : Option Nat) (P : Program) (Q : Exit → Act → World → Prop) (n : Nat) (c : Code) (r : Regs) (ds : List Deferred) (W : World) (chg news : Blks) : Prop :=
  ∀ a w, St n r ds W chg news a w → c.wpIn (Fr ro) 9 P Q a w
def RunLR (ro : Option Nat) (P : Program) (ops : Array Oper) (Q : Exit → Act → World → Prop) (n : Nat) (l : List Oper) (r : Regs) (ds : List Deferred) (W : World) (chg news : Blks) : Prop :=
  ∀ a w, St n r ds W chg news a w → wpListIn (Fr ro) 9 P ops Q l a w

/-- What holds at the wide fence. -/
theorem RunCR.of {c : Code} (h : RunC P Q n c r ds W chg news) : RunCR none P Q n c r ds W chg news := fun a w s => wpIn_wide.2 (h a w s)
theorem RunCR.to {c : Code} (h : RunCR none P Q n c r ds W chg news) : RunC P Q n c r ds W chg news := fun a w s => wpIn_wide.1 (h a w s)
theorem RunCR.seq {x y : Code} (h : RunCR ro P (Exit.then (y.wpIn (Fr ro) 9 P Q) Q) n x r ds W chg news) : RunCR ro P Q n (.seq x y) r ds W chg news := fun a w s => wpIn_seq (h a w s)
theorem RunCR.block {id : Nat} {c : Code} (h : RunCR ro P (Exit.inBlock id Q) n c r ds W chg news) : RunCR ro P Q n (.block id c) r ds W chg news := fun a w s => wpIn_block (h a w s)
theorem RunCR.skip (h : RunE Q n .normal r ds W chg news) : RunCR ro P Q n .skip r ds W chg news := fun a w s => wpIn_skip (h a w s)
theorem RunCR.exit {id : Nat} (h : RunE Q n (.exit id) r ds W chg news) : RunCR ro P Q n (.exit id) r ds W chg news := fun a w s => wpIn_exit (h a w s)
theorem RunCR.ret (h : RunE Q n .ret r ds W chg news) : RunCR ro P Q n .ret r ds W chg news := fun a w s => wpIn_ret (h a w s)
theorem RunCR.cond {c : Operand} {x y : Code} {t : Bool} (hc : rev r c = some (.bool t)) (ht : t = true → RunCR ro P Q n x r ds W chg news) (hf : t = false → RunCR ro P Q n y r ds W chg news) :
    RunCR ro P Q n (.cond c x y) r ds W chg news := fun a w s => by
  refine wpIn_cond (s.agree.eval hc) ?_
  cases t
  · exact hf rfl a w s
  · exact ht rfl a w s
theorem RunCR.region {id : Nat} {l : List Oper} (h : RunLR ro P l.toArray Q n l r ds W chg news) : RunCR ro P Q n (.region id l.toArray false) r ds W chg news := fun a w s => wpIn_region_lit (h a w s)
theorem RunLR.nil (h : RunE Q n .normal r ds W chg news) : RunLR ro P ops Q n [] r ds W chg news := fun a w s => h a w s
theorem RunER.next {y : Code} {Q' : Exit → Act → World → Prop} (h : RunCR ro P Q n y r ds W chg news) : RunE (Exit.then (y.wpIn (Fr ro) 9 P Q) Q') n .normal r ds W chg news := fun a w s => h a w s

theorem wpListIn_yes {a : Act} {w : World} {o : Oper} (hw : Region.wanted o (yielded ops a.tmps) = true) (hnd : notDefer o = true)
    (h : ∀ K : Act → World → Prop, (∀ a w, wpListIn (Fr ro) 9 P ops Q rest a w → K a w) → o.uponIn (Fr ro) 9 P a K Q ((execOp a.eval o).run P w)) : wpListIn (Fr ro) 9 P ops Q (o :: rest) a w :=
  wpListIn_step fun K hK => by
    rw [if_pos hw]
    refine ⟨fun _ _ => trivial, ?_⟩
    rw [Oper.semAt_eq _ _ _ (notDefer_spec hnd)]
    exact h K hK
theorem RunLR.val {o : Oper} {v : Value} (hv : Val P r W chg news o v) (hg : guardB ops r o.guard = some true) (hd : o.dst = some d) (hn : Nat.ble (d + 1) n = true)
    (h : RunLR ro P ops Q n rest ((d, v) :: r) ds W chg news) (hnd : notDefer o = true := by rfl) : RunLR ro P ops Q n (o :: rest) r ds W chg news := fun a w s =>
  wpListIn_yes (guardB_spec s.agree hg) hnd fun K hK => by
    rw [hv.run a w s.agree s.mem, Oper.uponIn_value, hd]
    exact hK _ _ (h _ _ (s.put (Nat.le_of_ble_eq_true hn) v))
theorem RunLR.no {o : Oper} (hg : guardB ops r o.guard = some false) (hd : o.dst = some d) (hn : Nat.ble (d + 1) n = true)
    (h : RunLR ro P ops Q n rest ((d, undef) :: r) ds W chg news) : RunLR ro P ops Q n (o :: rest) r ds W chg news := fun a w s =>
  wpListIn_step fun K hK => by
    rw [if_neg (by rw [guardB_spec s.agree hg]; simp)]
    exact ⟨fun _ _ => trivial, hK _ _ (by rw [hd]; exact h _ _ (s.put (Nat.le_of_ble_eq_true hn) undef))⟩
theorem RunLR.new {o : Oper} {v : Nat → Value} {ob : Obj} (hv : New P r W chg news o v ob) (hg : guardB ops r o.guard = some true) (hd : o.dst = some d) (hn : Nat.ble (d + 1) n = true)
    (h : ∀ b, RunLR ro P ops Q n rest ((d, v b) :: r) ds W chg ((b, ob) :: news)) (hnd : notDefer o = true := by rfl) : RunLR ro P ops Q n (o :: rest) r ds W chg news := fun a w s =>
  wpListIn_yes (guardB_spec s.agree hg) hnd fun K hK => by
    rw [hv.run a w s.agree s.mem, Oper.uponIn_value, hd]
    have s2 := s.put (Nat.le_of_ble_eq_true hn) (v w.heap.size)
    exact hK _ _ (h _ _ _ ⟨s2.size, s2.agree, s2.defers, s.mem.alloc ob⟩)
theorem RunLR.sto {o : Oper} {chg' news' : Blks} (hv : Sto P r W chg news o chg' news') (hg : guardB ops r o.guard = some true) (hd : o.dst = none)
    (h : RunLR ro P ops Q n rest r ds W chg' news') (hnd : notDefer o = true := by rfl) : RunLR ro P ops Q n (o :: rest) r ds W chg news := fun a w s =>
  wpListIn_yes (guardB_spec s.agree hg) hnd fun K hK => by
    obtain ⟨w', h1, h2⟩ := hv.run a w s.agree s.mem
    rw [h1, Oper.uponIn_skip, hd]
    exact hK _ _ (h _ _ ⟨s.size, s.agree, s.defers, h2⟩)
theorem RunLR.callP {o : Oper} {f : FuncId} {args : Array Value} {v : Value} (hi : IsCall P r o f args) (hg : guardB ops r o.guard = some true) (hd : o.dst = some d) (hn : Nat.ble (d + 1) n = true)
    (hc : ∀ w, Mem W chg news w → Calls P f args w (Pure v w)) (h : RunLR ro P ops Q n rest ((d, v) :: r) ds W chg news) (hnd : notDefer o = true := by rfl) : RunLR ro P ops Q n (o :: rest) r ds W chg news := fun a w s =>
  wpListIn_yes (guardB_spec s.agree hg) hnd fun K hK => by
    rw [hi.runs a w s.agree, Oper.uponIn_enter]
    refine ⟨fun h => (by cases h), ?_⟩
    have hc' : CallsIn Fence.wide 8 P f args w (Pure v w) := callsIn_wide.2 (hc w s.mem)
    have hc2 : CallsIn (Fr ro) 8 P f args w (Pure v w) := by
      cases ro with
      | none => exact hc'
      | some l => exact CallsIn.inRound l hc'
    refine hc2.mono ?_
    rintro e w' ⟨rfl, hm⟩
    show K _ _
    rw [hd]
    have s2 := s.put (Nat.le_of_ble_eq_true hn) v
    exact hK _ _ (h _ _ ⟨s2.size, s2.agree, s2.defers, s.mem.pass hm⟩)

theorem uponIn_seg {o : Oper} {a : Act} {K K' L : Act → World → Prop} (h : ∀ a w, K a w → K' a w) {x : Result Next} (hh : o.uponIn (Fr ro) 9 P a K (SegQ Q L) x) : o.uponIn (Fr ro) 9 P a K' Q x := by
  cases x with
  | ok nx w' =>
    cases nx <;> simp only [Oper.uponIn] at hh ⊢ <;>
      first
        | exact h _ _ hh
        | exact ⟨hh.1, hh.2.mono (fun e w'' he => by cases e <;> first | exact h _ _ he | exact he)⟩
        | exact ⟨hh.1, RowsIn.mono hh.2 (fun _ _ he => h _ _ he)⟩
        | exact hh
  | halt x w' => cases x <;> simp only [Oper.uponIn] at hh ⊢ <;> exact hh
theorem wpListIn_append {K : Act → World → Prop} {l2 : List Oper} (hK : ∀ a w, K a w → wpListIn (Fr ro) 9 P ops Q l2 a w) : ∀ (l : List Oper) (a : Act) (w : World), wpListIn (Fr ro) 9 P ops (SegQ Q K) l a w → wpListIn (Fr ro) 9 P ops Q (l ++ l2) a w
  | [], a, w, h => hK a w h
  | o :: l, a, w, h => by
    simp only [wpListIn, List.cons_append] at h ⊢
    split
    · rename_i hw
      rw [if_pos hw] at h
      exact ⟨h.1, uponIn_seg (wpListIn_append hK l) h.2⟩
    · rename_i hw
      rw [if_neg hw] at h
      exact ⟨h.1, wpListIn_append hK l _ _ h.2⟩
theorem RunLR.part {l : List Oper} {q : Regs} (k : Nat) (h1 : RunLR ro P ops (SegQ Q (St n q ds W chg news)) n (l.take k) r ds W chg news) (h2 : RunLR ro P ops Q n (l.drop k) q ds W chg news) : RunLR ro P ops Q n l r ds W chg news := by
  have h : RunLR ro P ops Q n (l.take k ++ l.drop k) r ds W chg news := fun a w s => wpListIn_append h2 _ a w (h1 a w s)
  rwa [List.take_append_drop] at h
theorem RunLR.segEnd {q : Regs} {news' : Blks} (hs : Sub q r) (hn : news'.Sublist news) : RunLR ro P ops (SegQ Q (St n q ds W chg news')) n [] r ds W chg news := fun _ _ s => s.sub hs hn
theorem RunLR.andPart {l : List Oper} {b x : Bool} {dj dp : Nat} (k : Nat) (hj : rget r dj = some (.bool b))
    (hyes : b = true → RunLR ro P ops (SegQ Q (St n ((dp, .bool x) :: r) ds W chg news)) n (l.take k) ((dj, .bool true) :: r) ds W chg news)
    (hno : b = false → RunLR ro P ops (SegQ Q (St n ((dp, .bool false) :: r) ds W chg news)) n (l.take k) ((dj, .bool false) :: r) ds W chg news)
    (h2 : RunLR ro P ops Q n (l.drop k) ((dp, .bool (b && x)) :: r) ds W chg news) : RunLR ro P ops Q n l r ds W chg news := by
  refine RunLR.part k ?_ h2
  intro a w s
  cases b with
  | true => exact hyes rfl a w (s.know hj rfl)
  | false => exact hno rfl a w (s.know hj rfl)

/-! ### A call of the round -/
structure IsYield (P : Program) (r : Regs) (o : Oper) (l : Nat) (args : Array Value) : Prop where
  runs : ∀ a w, Agree a r → (execOp a.eval o).run P w = (Instr.yield l args).run P w
theorem isYield_value {x : Operand} {l : Nat} {xs : List Operand} {vs : List Value} {ats : Array TypeId} {dst : Option Tmp} {gd : Option (Nat × Bool)} {ty : TypeId} {pos : String} {after : Array Edge} (hv : rev r x = some (.func (.yield l) #[] #[])) (hx : revs r xs = some vs) :
    IsYield P r { dst, op := .call { callee := .value x, args := xs.toArray, argTypes := ats }, type := ty, pos, after, guard := gd } l vs.toArray :=
  ⟨fun a w ha => by
    have h1 := ha.evals hx
    simp [execOp, resolve, h1, ha.eval hv, Deferred.ofValue, invoke]⟩
/-- The round comes, and the memory is another: what is known of it behind the round is said anew, of the world that it left. -/
theorem RunLR.yield {o : Oper} {l : Nat} {args : Array Value} {RY : Bool → World → Prop} (hi : IsYield P r o l args) (hg : guardB ops r o.guard = some true) (hd : o.dst = some d) (hn : Nat.ble (d + 1) n = true)
    (hy : ∀ w, Mem W chg news w → YieldAt (Fr none) 8 P l args w fun e w' => ∃ b, e = .returned (.bool b) ∧ RY b w')
    (h : ∀ b W', RY b W' → RunLR none P ops Q n rest ((d, .bool b) :: r) ds W' [] []) (hnd : notDefer o = true := by rfl) : RunLR none P ops Q n (o :: rest) r ds W chg news := fun a w s =>
  wpListIn_yes (guardB_spec s.agree hg) hnd fun K hK => by
    obtain ⟨fn, tmps, assign, body, hy1, hy2⟩ := hy w s.mem
    rw [hi.runs a w s.agree, hy1, Oper.uponIn_round]
    refine ⟨fun h => (by cases h), hy2.mono ?_⟩
    rintro e w' ⟨b, rfl, hb⟩
    show K _ _
    rw [hd]
    have s2 := s.put (Nat.le_of_ble_eq_true hn) (.bool b)
    exact hK _ _ (h b w' hb _ _ ⟨s2.size, s2.agree, s2.defers, Mem.refl _⟩)

/-- A loop whose rounds each begin in a world of their own. -/
def RoundW (n : Nat) (ds : List Deferred) (N : Nat) (Inv : Nat → World → Prop) (R : Nat → Regs) (k : Nat) (a : Act) (w : World) : Prop :=
  ∃ k', k < k' ∧ k' ≤ N ∧ Inv k' w ∧ St n (R k') ds w [] [] a w
theorem St.rebase {q : Regs} {a : Act} {w : World} (s : St n r ds W chg news a w) (hs : Sub q r) : St n q ds w [] [] a w := ⟨s.size, s.agree.sub hs, s.defers, Mem.refl w⟩
theorem RunCR.loopW {body : Code} {q : Regs} (N : Nat) (R : Nat → Regs → Regs) (Inv : Nat → World → Prop) (h0 : ∀ w, Mem W chg news w → Inv 0 w) (hs : Sub (R 0 q) r)
    (hb : ∀ k W', k ≤ N → Inv k W' → RunCR ro P (Exit.then (RoundW n ds N Inv (fun k => R k q) k) Q) n body (R k q) ds W' [] []) : RunCR ro P Q n (.loop body) r ds W chg news := by
  have key : ∀ (m k : Nat), N - k < m → k ≤ N → ∀ a w, Inv k w → St n (R k q) ds w [] [] a w → Code.roundsIn (Fr ro) 9 P body Q m a w := by
    intro m
    induction m with
    | zero => intro k h; omega
    | succ m ih =>
      intro k hk hN a w hi s
      rw [roundsIn_succ]
      refine wpIn_mono (hb k w hN hi a w s) ?_
      rintro e a2 w2 hq
      cases e with
      | normal =>
        obtain ⟨k', h1, h2, h3, s2⟩ := hq
        exact ih k' (by omega) h2 a2 w2 h3 s2
      | exit id => exact hq
      | goto l => exact hq
      | ret => exact hq
      | panic c => exact hq
      | outgrown => exact hq
  intro a w s
  exact wpIn_loop_rounds _ (key _ 0 (Nat.lt_succ_self _) (Nat.zero_le _) a w (h0 w s.mem) (s.rebase hs))
theorem RunE.roundW {N : Nat} {Inv : Nat → World → Prop} {R : Nat → Regs} {k : Nat} (hN : k + 1 ≤ N) (hi : ∀ w, Mem W chg news w → Inv (k + 1) w) (hs : Sub (R (k + 1)) r) :
    RunE (Exit.then (RoundW n ds N Inv R k) Q) n .normal r ds W chg news := fun _ w s => ⟨k + 1, Nat.lt_succ_self _, hN, hi w s.mem, s.rebase hs⟩

/-! ### Functions that hold such a loop -/
theorem Mem.grown {w : World} (h : Mem W [] news w) : W.grownBy w none := ⟨h.os, h.tape, h.output, h.size, fun k hk _ => h.old k hk (by simp)⟩
theorem wpIn_any {c : Code} {m k : Nat} {a : Act} {w : World} (h : c.wpIn (Fr ro) m P Q a w) : c.wpIn (Fr ro) k P Q a w := fun b i cs h1 h2 _ => h b i cs h1 h2 (fun _ hd => by cases hd)
theorem callsIn_start {f : FuncId} {fn : Func} {c : Code} {vs : List Value} {R : Ending → World → Prop} (hf : P.funcs[f]? = some fn) (hb : fn.body = some c) (hn : Nat.ble vs.length fn.ntmps = true)
    (h : RunCR none P (bodyPost P fn R) fn.ntmps c (args0 0 vs) [] W [] []) (m : Nat) : CallsIn (Fr none) m P f vs.toArray W R :=
  callsIn_of_wp hf hb trivial (wpIn_any (h _ _ (start_st (Nat.le_of_ble_eq_true hn) (Mem.refl W)))) rfl

/-! ### The loop itself -/
/-- What the body leaves as it was. -/
def KpX (B : Nat) (nm : List Nat) (W W' : World) : Prop := ∀ k, k < B → k ∉ nm → W'.heap[k]? = W.heap[k]?
def BodyQ (W : World) (V : Blks) : Exit → Act → World → Prop
  | .normal, _, w => Mem W V [] w
  | _, _, _ => False
theorem RunE.bodyDone {V : Blks} (hc : chg = V) : RunE (BodyQ W V) n .normal r ds W chg news := fun _ _ s => hc ▸ s.mem.drop
theorem mem_names {l : Blks} {b : Nat} : b ∈ l.map (·.1) ↔ ∃ o, (b, o) ∈ l := by simp
theorem Mem.round {w w' : World} {V V' n0 : Blks} (h : Mem W chg (V ++ n0) w) (h' : Mem w V' [] w') (hm : V'.map (·.1) = V.map (·.1)) : Mem W chg (V' ++ n0) w' := by
  have hV : ∀ b, (∃ o, (b, o) ∈ V') ↔ ∃ o, (b, o) ∈ V := fun b => by rw [← mem_names, ← mem_names, hm]
  have hge : ∀ b o, (b, o) ∈ V' → W.heap.size ≤ b := fun b o hb => by
    obtain ⟨o2, h2⟩ := (hV b).1 ⟨o, hb⟩
    exact (h.newd b o2 (List.mem_append.2 (.inl h2))).1
  have hnd := h.once
  refine ⟨h'.os.trans h.os, h'.tape.trans h.tape, h'.output.trans h.output, Nat.le_trans h.size h'.size, fun k hk hc => ?_, fun b o hb => ?_, fun b o hb => ?_, ?_⟩
  · rw [h'.old k (Nat.lt_of_lt_of_le hk h.size) (fun o ho => by have := hge k o ho; omega)]
    exact h.old k hk hc
  · have h1 := h.chgd b o hb
    refine ⟨h1.1, ?_⟩
    rw [h'.old b (Nat.lt_of_lt_of_le h1.1 h.size) (fun o2 ho => by have := hge b o2 ho; omega)]
    exact h1.2
  · rcases List.mem_append.1 hb with hb | hb
    · exact ⟨hge b o hb, (h'.chgd b o hb).2⟩
    · have h1 := h.newd b o (List.mem_append.2 (.inr hb))
      refine ⟨h1.1, ?_⟩
      rw [h'.old b (h.lt_new (List.mem_append.2 (.inr (List.mem_append.2 (.inr hb))))) (fun o2 ho => ?_)]
      · exact h1.2
      · obtain ⟨o3, h3⟩ := (hV b).1 ⟨o2, ho⟩
        rw [List.map_append, List.map_append, List.nodup_append] at hnd
        have h4 := (List.nodup_append.1 hnd.2.1).2.2 b (mem_names.2 ⟨o3, h3⟩) b (mem_names.2 ⟨o, hb⟩)
        exact h4 rfl
  · have e : (chg ++ (V' ++ n0)).map (·.1) = (chg ++ (V ++ n0)).map (·.1) := by simp [List.map_append, hm]
    rw [e]; exact hnd
theorem Mem.turned {w w' : World} {row : Option Nat} {B : Nat} (h : Mem W chg news w) (hg : w.grownBy w' row) (hr : ∀ k, row = some k → B ≤ k) (hlt : ∀ b o, (b, o) ∈ chg ++ news → b < B) (hW : W.heap.size ≤ B) : Mem W chg news w' := by
  have hne : ∀ k, k < B → some k ≠ row := fun k hk e => by have := hr k e.symm; omega
  refine ⟨hg.os.trans h.os, hg.tape.trans h.tape, hg.output.trans h.output, Nat.le_trans h.size hg.size, fun k hk hc => ?_, fun b o hb => ?_, fun b o hb => ?_, h.once⟩
  · rw [hg.block k (Nat.lt_of_lt_of_le hk h.size) (hne k (by omega))]; exact h.old k hk hc
  · have h1 := h.chgd b o hb
    exact ⟨h1.1, by rw [hg.block b (h.lt_new (List.mem_append.2 (.inl hb))) (hne b (hlt b o (List.mem_append.2 (.inl hb))))]; exact h1.2⟩
  · have h1 := h.newd b o hb
    exact ⟨h1.1, by rw [hg.block b (h.lt_new (List.mem_append.2 (.inr hb))) (hne b (hlt b o (List.mem_append.2 (.inr hb))))]; exact h1.2⟩

/-- 'for x := range seq': the blocks V turn from round to round; all else that was known stays. -/
theorem RunC.rangeFunc {α : Type} {g : Operand} {p q gf N id : Nat} {lb : Array Value} {enc : α → Value} {S : List α → Prop} {oA : Oper} {body : Code} (V : List α → Blks) (n0 : Blks)
    (hg : rev r g = some (.func (.func gf) #[] lb)) (he : Enters P gf) (hn : Pick (V [] ++ n0) news) (hnm : ∀ pre, (V pre).map (·.1) = (V []).map (·.1)) (hcl : ∀ pre b o, (b, o) ∈ V pre → o.isCells = true)
    (hseq : ∀ w, Mem W chg (V [] ++ n0) w → SeqStopsK (Fr none) 8 P gf lb (fun x => #[enc x]) (KpX w.heap.size ((V []).map (·.1))) S (fun _ => True) N w)
    (hp : Nat.ble (p + 1) n = true) (hq : Nat.ble (q + 1) n = true) (hA : ∀ v, pureV ((p, v) :: r) oA.op = some v) (hAg : oA.guard = none) (hAd : oA.dst = some q) (hAn : notDefer oA = true)
    (hbody : ∀ l pre x W1, pre.length < N → Mem W chg (V pre ++ n0) W1 → RunCR (some l) P (BodyQ W1 (V (pre ++ [x]))) n body ((q, enc x) :: (p, enc x) :: r) [] W1 (V pre) [])
    (h : ∀ xs D, S xs → RunE Q n .normal r ({ target := .collected D, args := #[] } :: ds) W chg ((D, .deferred (some [])) :: (V xs ++ n0))) :
    RunC P Q n (.rangeFunc g #[p] (.region id #[oA] false) body) r ds W chg news := fun a w s => by
  have s0 := s.mem.pick hn
  have hlt : ∀ pre b o, (b, o) ∈ chg ++ (V pre ++ n0) → b < w.heap.size := fun pre b o hb => by
    rcases List.mem_append.1 hb with hb | hb
    · exact s0.lt_new (List.mem_append.2 (.inl hb))
    · rcases List.mem_append.1 hb with hb | hb
      · have : b ∈ (V pre).map (·.1) := mem_names.2 ⟨o, hb⟩
        rw [hnm pre] at this
        obtain ⟨o2, h2⟩ := mem_names.1 this
        exact s0.lt_new (List.mem_append.2 (.inr (List.mem_append.2 (.inl h2))))
      · exact s0.lt_new (List.mem_append.2 (.inr (List.mem_append.2 (.inr hb))))
  have hge : ∀ pre b o, (b, o) ∈ V pre → W.heap.size ≤ b := fun pre b o hb => by
    have : b ∈ (V pre).map (·.1) := mem_names.2 ⟨o, hb⟩
    rw [hnm pre] at this
    obtain ⟨o2, h2⟩ := mem_names.1 this
    exact (s0.newd b o2 (List.mem_append.2 (.inl h2))).1
  have hown : OwnFrom w.heap.size (fun (pre : List α) W' => Mem W chg (V pre ++ n0) W' ∧ w.heap.size ≤ W'.heap.size) := fun pre A B row hI hgr hr => ⟨hI.1.turned hgr (fun k e => (hr k e).1) (hlt pre) s0.size, Nat.le_trans hI.2 hgr.size⟩
  refine (wpIn_wide (n := 9)).1 ?_
  show Code.wpIn (Fr none) 9 P _ Q a w
  refine wpIn_rangeFunc_ownG (F := Fr none) (n := 9) rfl (by decide) (s.agree.eval hg) trivial he (hseq w s0) (fun {A B C} h1 h2 k hk hne => (h2 k hk hne).trans (h1 k hk hne)) ?_ (Below.refl _ w) (fun _ => rfl)
    (fun pre W' => Mem W chg (V pre ++ n0) W' ∧ w.heap.size ≤ W'.heap.size) (fun _ _ _ => False) hown (fun _ _ _ _ _ hf _ _ => hf) ⟨s0, Nat.le_refl _⟩ (fun x => ({ tmps := a.tmps.setIfInBounds p (enc x), defers := [] } : Act).put (some q) (enc x)) ?assign ?body ?done ?stop
  · intro W' l o o' hl _ _ _ k hk _
    exact World.putObj_heap_other (by omega)
  case assign =>
    intro l x W' K hK
    have hsz : p < a.tmps.size := by rw [s.size]; exact Nat.le_of_ble_eq_true hp
    have hag : Agree (({ tmps := a.tmps, defers := [] } : Act).put (some p) (enc x)) ((p, enc x) :: r) := Agree.put (a := { tmps := a.tmps, defers := [] }) (fun t u ht => s.agree t u ht) hsz
    have e : (#[p].zip #[enc x]).foldl (fun t (pv : Nat × Value) => t.setIfInBounds pv.1 pv.2) a.tmps = a.tmps.setIfInBounds p (enc x) := by simp
    refine wpIn_region_lit (l := [oA]) (wpListIn_plain hAg fun K2 hK2 => ?_)
    refine ⟨fun _ _ => trivial, ?_⟩
    rw [Oper.semAt_eq _ _ _ (notDefer_spec hAn)]
    have hrun := pureV_sound (P := P) (o := oA) hag (hA (enc x)) W'
    have e2 : (({ tmps := a.tmps, defers := [] } : Act).put (some p) (enc x)) = { tmps := (#[p].zip #[enc x]).foldl (fun t (pv : Nat × Value) => t.setIfInBounds pv.1 pv.2) a.tmps, defers := [] } := by rw [e]; rfl
    rw [e2] at hrun
    rw [hrun, Oper.uponIn_value, hAd]
    refine hK2 _ _ ?_
    show K _ _
    rw [e]
    exact hK
  case body =>
    intro l pre x W1 ⟨hI, hsz1⟩ hlen
    have hsz : p < a.tmps.size := by rw [s.size]; exact Nat.le_of_ble_eq_true hp
    have hsz2 : q < a.tmps.size := by rw [s.size]; exact Nat.le_of_ble_eq_true hq
    have hag : Agree (({ tmps := a.tmps, defers := [] } : Act).put (some p) (enc x)) ((p, enc x) :: r) := Agree.put (a := { tmps := a.tmps, defers := [] }) (fun t u ht => s.agree t u ht) hsz
    have hag2 := hag.put (d := q) (v := enc x) (by simp [Act.put]; exact hsz2)
    have hst : Mem W1 (V pre) [] W1 := ⟨rfl, rfl, rfl, Nat.le_refl _, fun _ _ _ => rfl, fun b o hb => ⟨hI.lt_new (List.mem_append.2 (.inr (List.mem_append.2 (.inl hb)))), (hI.newd b o (List.mem_append.2 (.inl hb))).2⟩, fun _ _ hb => (by cases hb), by
      have := hI.once
      rw [List.map_append, List.map_append, List.nodup_append] at this
      simpa using (List.nodup_append.1 this.2.1).1⟩
    have hb := hbody l pre x W1 hlen hI _ W1 ⟨by simp [Act.put, s.size], hag2, rfl, hst⟩
    refine wpIn_mono (wpIn_any hb) ?_
    intro e a2 w2 hq
    cases e with
    | normal =>
      have hq : Mem W1 (V (pre ++ [x])) [] w2 := hq
      have hnot : ∀ k, k ∉ (V []).map (·.1) → ∀ o, (k, o) ∉ V (pre ++ [x]) := fun k hk o ho => hk (by rw [← hnm (pre ++ [x])]; exact mem_names.2 ⟨o, ho⟩)
      refine ⟨⟨hq.size, fun k o hB hk ho => ?_⟩, fun k hk hne => hq.old k (Nat.lt_of_lt_of_le hk hsz1) (hnot k hne), hI.round hq (by rw [hnm, hnm pre]), Nat.le_trans hsz1 hq.size⟩
      · rw [hq.old k (Array.getElem?_eq_some_iff.1 hk).1 (fun o2 ho2 => ?_)]
        · exact hk
        · have := hlt (pre ++ [x]) k o2 (List.mem_append.2 (.inr (List.mem_append.2 (.inl ho2))))
          omega
    | exit id => exact hq.elim
    | goto l => exact hq.elim
    | ret => exact hq.elim
    | panic c => exact hq.elim
    | outgrown => exact hq.elim
  case done =>
    intro D xs W' hD hS ⟨hI, _⟩ hK
    refine h xs D hS _ W' ⟨s.size, s.agree, by rw [← s.defers], ?_⟩
    refine { hI with newd := fun b o hb => ?_, once := ?_ }
    · rcases List.mem_cons.1 hb with hb | hb
      · cases hb; exact ⟨Nat.le_trans s0.size hD, hK⟩
      · exact hI.newd b o hb
    · have hnd := hI.once
      rw [List.map_append, List.nodup_append] at hnd ⊢
      refine ⟨hnd.1, ?_, ?_⟩
      · rw [List.map_cons, List.nodup_cons]
        refine ⟨fun hm => ?_, hnd.2.1⟩
        obtain ⟨o, ho⟩ := mem_names.1 hm
        have := hlt xs D o (List.mem_append.2 (.inr ho))
        omega
      · intro b hb c hc
        rw [List.map_cons, List.mem_cons] at hc
        rcases hc with rfl | hc
        · obtain ⟨o, ho⟩ := mem_names.1 hb
          have := hlt xs b o (List.mem_append.2 (.inl ho))
          intro e; subst e; omega
        · exact hnd.2.2 b hb c hc
  case stop =>
    intro D c pre W' _ _ hf
    exact hf.elim

/-! ### Leaving such a function: the loop's mark, and one deferred call -/
structure CatchesIn (P : Program) (f : FuncId) (T : TypeId) (mis : Int → Value) : Prop where
  calm : ∀ b w, CallsDIn Fence.wide 8 P f #[.pointer (some ⟨b, 0, none⟩)] .returning w fun e u w' => (∃ v, e = .returned v) ∧ u = .returning ∧ Mem w [] [] w'
  wild : ∀ b k x w, w.heap[b]? = some (.cells #[x] T (0, 0)) → CallsDIn Fence.wide 8 P f #[.pointer (some ⟨b, 0, none⟩)] (.panicking [{ v := mis k, recovered := false }]) w fun e u w' =>
    (∃ v, e = .returned v) ∧ u = .panicking [{ v := mis k, recovered := true }] ∧ Mem w [(b, .cells #[.int .i64 k] T (0, 0))] [] w'
theorem calls_start_marks {f : FuncId} {fn : Func} {c : Code} {vs : List Value} {R : Ending → World → Prop} (hf : P.funcs[f]? = some fn) (hb : fn.body = some c) (hn : Nat.ble vs.length fn.ntmps = true)
    (h : RunC P (bodyPostM Fence.wide 9 P fn R) fn.ntmps c (args0 0 vs) [] W [] []) : Calls P f vs.toArray W R :=
  (callsIn_wide (n := 9)).1 (callsIn_of_wp_marks hf hb trivial (wpIn_wide.2 (h _ _ (start_st (Nat.le_of_ble_eq_true hn) (Mem.refl W)))) rfl)
theorem Mem.putNew {w : World} {D : Nat} {o : Obj} (o' : Obj) (h : Mem W chg ((D, o) :: news) w) : Mem W chg news (w.putObj D o') := by
  have hD := (h.newd D o (List.mem_cons_self ..)).1
  have hnd := h.once
  rw [List.map_append, List.map_cons, List.nodup_append, List.nodup_cons] at hnd
  refine ⟨h.os, h.tape, h.output, by simpa using h.size, fun k hk hc => ?_, fun b o2 hb => ?_, fun b o2 hb => ?_, ?_⟩
  · rw [World.putObj_heap_other (by omega)]; exact h.old k hk hc
  · have h1 := h.chgd b o2 hb
    exact ⟨h1.1, by rw [World.putObj_heap_other (by omega)]; exact h1.2⟩
  · have h1 := h.newd b o2 (List.mem_cons_of_mem _ hb)
    refine ⟨h1.1, ?_⟩
    rw [World.putObj_heap_other (fun e => hnd.2.1.1 (by subst e; exact mem_names.2 ⟨o2, hb⟩))]
    exact h1.2
  · rw [List.map_append, List.nodup_append]
    exact ⟨hnd.1, hnd.2.1.2, fun a ha b hb => hnd.2.2 a ha b (List.mem_cons_of_mem _ hb)⟩
theorem leavesM_calm {fn : Func} {f : FuncId} {T : TypeId} {mis : Int → Value} {v v0 : Value} {b : Nat} (hc : CatchesIn P f T mis) (he : Enters P f) (hv : ResVs P r news fn v) (hv0 : v = v0) {a : Act} {w : World} (hag : Agree a r) (hm : Mem W [] news w) :
    LeavesInM Fence.wide 9 P fn a.tmps (Pure v0 W) [{ target := .fn (.func f) #[], args := #[.pointer (some ⟨b, 0, none⟩)] }] .returning w := by
  refine ⟨by simp, .inr ⟨fun h => (by cases h), _, _, f, #[.pointer (some ⟨b, 0, none⟩)], rfl, by simp [invoke]; exact he _ _, fun _ _ => trivial, (hc.calm b w).mono ?_⟩⟩
  rintro e u w' ⟨⟨x, rfl⟩, rfl, hm'⟩
  have hm2 := hm.pass hm'
  exact ⟨v, hv.run hag (fun _ _ h => hm2.at (by simpa using h)), by rw [hv0], hm2.drop⟩
theorem RunE.retM {fn : Func} {f : FuncId} {T : TypeId} {mis : Int → Value} {v v0 : Value} {b D : Nat} {news2 : Blks} (hc : CatchesIn P f T mis) (he : Enters P f) (ht : Take (D, .deferred (some [])) news news2) (hv : ResVs P r news2 fn v) (hv0 : v = v0) :
    RunE (bodyPostM Fence.wide 9 P fn (Pure v0 W)) n .ret r [{ target := .collected D, args := #[] }, { target := .fn (.func f) #[], args := #[.pointer (some ⟨b, 0, none⟩)] }] W [] news := fun a w s => by
  show LeavesInM _ _ _ _ _ _ a.defers _ w
  rw [s.defers]
  have hm := s.mem.pick (Pick.cons ht rfl (Pick.refl news2))
  exact ⟨by simp, .inl ⟨D, _, rfl, run_takeDeferred (hm.newd D _ (List.mem_cons_self ..)).2, leavesM_calm hc he hv hv0 s.agree (hm.putNew _)⟩⟩
theorem RunE.panM {fn : Func} {f : FuncId} {T : TypeId} {mis : Int → Value} {v v0 x : Value} {b : Nat} {k : Int} {news' : Blks} (hc : CatchesIn P f T mis) (he : Enters P f) (hu : Upd news b (.cells #[x] T (0, 0)) (.cells #[.int .i64 k] T (0, 0)) news') (hv : ResVs P r news' fn v) (hv0 : v = v0) :
    RunE (bodyPostM Fence.wide 9 P fn (Pure v0 W)) n (.panic [{ v := mis k, recovered := false }]) r [{ target := .fn (.func f) #[], args := #[.pointer (some ⟨b, 0, none⟩)] }] W [] news := fun a w s => by
  show LeavesInM _ _ _ _ _ _ a.defers _ w
  rw [s.defers]
  refine ⟨by simp, .inr ⟨fun h => (by cases h), _, _, f, #[.pointer (some ⟨b, 0, none⟩)], rfl, by simp [invoke]; exact he _ _, fun _ _ => trivial, (hc.wild b k x w (s.mem.newd _ _ hu.mem).2).mono ?_⟩⟩
  rintro e u w' ⟨⟨y, rfl⟩, rfl, hm⟩
  have hm2 := s.mem.turn_new hu hm
  exact ⟨v, hv.run s.agree (fun _ _ h => hm2.at (by simpa using h)), by rw [hv0], hm2.drop⟩

theorem RunLR.ways {l : List Oper} {b : Bool} {dj : Nat} (hj : rget r dj = some (.bool b)) (h1 : b = true → RunLR ro P ops Q n l ((dj, .bool true) :: r) ds W chg news) (h2 : b = false → RunLR ro P ops Q n l ((dj, .bool false) :: r) ds W chg news) : RunLR ro P ops Q n l r ds W chg news := fun a w s => by
  cases b with
  | true => exact h1 rfl a w (s.know hj rfl)
  | false => exact h2 rfl a w (s.know hj rfl)
theorem yieldAt_any {m k l : Nat} {args : Array Value} {w : World} {R R' : Ending → World → Prop} (h : YieldAt (Fr none) m P l args w R) (hR : ∀ e w', R e w' → R' e w') : YieldAt (Fr none) k P l args w R' := by
  obtain ⟨fn, tmps, assign, body, h1, h2⟩ := h
  exact ⟨fn, tmps, assign, body, h1, trivial, fun c cs _ => let ⟨e, w', r, s⟩ := h2.2 c cs (fun _ hd => by cases hd); ⟨e, w', hR _ _ r, s⟩⟩
theorem Sl.kp {W W' : World} {p : Option Addr} {b o sz : Nat} {xs : List (List Value)} (h : Sl W p b o sz xs) (hk : xs ≠ [] → W'.heap[b]? = W.heap[b]?) : Sl W' p b o sz xs :=
  ⟨h.at', h.len, fun i hi j hj => by rw [World.cell?_of_block (a := ⟨b, o + i * sz + j, none⟩) (hk (by rintro rfl; simp at hi))]; exact h.cell i hi j hj⟩
theorem Mem.apart {w : World} {V n0 : Blks} (h : Mem W chg (V ++ n0) w) {b : Nat} {o : Obj} (hb : (b, o) ∈ n0) : b < w.heap.size ∧ b ∉ V.map (·.1) := by
  refine ⟨h.lt_new (List.mem_append.2 (.inr (List.mem_append.2 (.inr hb)))), fun hc => ?_⟩
  have hnd := h.once
  rw [List.map_append, List.map_append, List.nodup_append] at hnd
  exact (List.nodup_append.1 hnd.2.1).2.2 b hc b (mem_names.2 ⟨o, hb⟩) rfl
theorem Mem.oldApart {w : World} {V n0 : Blks} (h : Mem W chg (V ++ n0) w) {b : Nat} (hb : b < W.heap.size) : b < w.heap.size ∧ b ∉ V.map (·.1) := by
  refine ⟨Nat.lt_of_lt_of_le hb h.size, fun hc => ?_⟩
  obtain ⟨o, ho⟩ := mem_names.1 hc
  have := (h.newd b o (List.mem_append.2 (.inl ho))).1
  omega
theorem Sl.mono' {w : World} {p : Option Addr} {b o sz : Nat} {xs : List (List Value)} (h : Sl W p b o sz xs) (hz : 0 < sz) (hm : Mem W chg news w) (hc : xs ≠ [] → ∀ ob, (b, ob) ∉ chg) : Sl w p b o sz xs := by
  cases xs with
  | nil => exact ⟨h.at', h.len, fun i hi => by simp at hi⟩
  | cons x xs => exact h.mono hz hm (hc (by simp))
theorem Sl.lt0 {p : Option Addr} {b o sz : Nat} {xs : List (List Value)} (h : Sl W p b o sz xs) (hz : 0 < sz) (hx : xs ≠ []) : b < W.heap.size := h.lt hz (i := 0) (List.length_pos_iff.2 hx)
end
end Go.Eng
/- The engine: a deferred function that calls another one besides recovering, where its caller ranges over a function; leaving such a caller. No program is in sight. -/
namespace Go.Eng
open Go Go.RowKit
section
variable {P : Program}
theorem callsDIn_wide_of_wpS {f : FuncId} {fn : Func} {c : Code} {args : Array Value} {u : FrameMode} {w : World} {n : Nat} {R : Ending → FrameMode → World → Prop} (hf : P.funcs[f]? = some fn) (hb : fn.body = some c)
    (h : ∀ (c₀ : Frame) (cs : List Frame), c₀.mode = u → c.wpS P (bodyPostS P fn c₀ cs R) { tmps := args ++ Array.replicate (fn.ntmps - args.size) undef, defers := [] } (c₀ :: cs) w) :
    CallsDIn Fence.wide n P f args u w R := by
  refine ⟨trivial, fun c₀ cs hu _ => ?_⟩
  obtain ⟨e, a', cs', w', hq, harr⟩ := h c₀ cs hu { (default : Frame) with fn := f, kind := .deferred } [] rfl rfl
  have hen : Frame.enter P f args .deferred = ({ (default : Frame) with fn := f, kind := .deferred } : Frame).at { tmps := args ++ Array.replicate (fn.ntmps - args.size) undef, defers := [] } [.code c] := by
    simp [Frame.enter, Frame.at, hf, hb]
  rw [← hen] at harr
  match e, hq, harr with
  | .normal, ⟨hd, u', hc, v, hr, hR⟩, harr =>
    subst hc
    exact ⟨.returned v, u', w', _, hR, (comesIn_wide (P := P) (e := .returned v)).2 (Steps.trans harr (.one step_end)), rfl, rfl, rfl, hd, fn, hf, hr⟩
  | .ret, ⟨hd, u', hc, v, hr, hR⟩, ⟨_, hs⟩ =>
    subst hc
    exact ⟨.returned v, u', w', _, hR, (comesIn_wide (P := P) (e := .returned v)).2 hs, rfl, rfl, rfl, hd, fn, hf, hr⟩
  | .panic chain, ⟨hd, u', hc, hR⟩, ⟨_, hs⟩ =>
    subst hc
    exact ⟨.panicked chain, u', w', _, hR, (comesIn_wide (P := P) (e := .panicked chain)).2 hs, rfl, rfl, rfl, hd, fn, hf⟩
  | .outgrown, ⟨u', hR⟩, harr =>
    exact ⟨.outgrown, u', w', { (default : Frame) with fn := f, kind := .deferred }, hR, (comesIn_wide (P := P) (e := .outgrown)).2 (harr.resolve_left (by simp)), rfl, rfl, trivial⟩
variable {W w : World} {chg news : Blks}
/-- Some cells of one row of a slice. -/
theorem Sl.loadPart {α : Type} {f : α → List Value} {T : TypeId} {p : Option Addr} {b o sz m : Nat} {l : List α} (h : Sl W p b o sz (l.map f)) (hm : Mem W chg news w) (hc : ∀ ob, (b, ob) ∉ chg) (hT : tyB P T = some (true, m)) {i : Nat} (hi : i < l.length) {x : α} (hx : l[i] = x) {j : Nat} (hj : j + m ≤ sz) {vs : List Value} (hv : grab (f x) j m = some vs) (hm0 : 0 < m) {off : Nat} (ho : off = o + i * sz + j) :
    (loadVar T ⟨b, off, none⟩).run P w = .ok (.agg vs.toArray) w := by
  subst hx
  subst ho
  have hi' : i < (l.map f).length := by simpa using hi
  obtain ⟨h1, h2⟩ := grab_spec hv
  refine run_loadVar_agg (by rw [h1]; exact hT) (fun k hk => ?_)
  rw [add_plain, hm.cell (p := ⟨b, _, none⟩) (h.lt (by omega) hi') hc, Nat.add_assoc (o + i * sz) j k, h.cell i hi' (j + k) (by omega), List.getElem_map, h2 k (by omega)]
  simp [hk]
end
section
variable {P : Program} {ops : Array Oper} {Q : Exit → Act → World → Prop} {n d i : Nat} {r : Regs} {ds : List Deferred} {W : World} {chg news : Blks} {K : Act → World → Prop}
theorem RunC.drawPJ {id : Nat} {l : List Oper} {news0 : Blks} {J : Act → World → Prop} (k : Nat) (hm : P.follows .mixedOrders = true) (hp : Pick news0 news) (h : RunA P l.toArray (PanQ (SegQ Q J) n r ds W chg news0) k (fun c => c = chg) news0 n l.toArray.size (Array.replicate l.toArray.size false) r ds W chg news) (h2 : ∀ a w, J a w → Q .normal a w) :
    RunC P Q n (.region id l.toArray true) r ds W chg news := fun a w s =>
  Code.wp_mono (fun e a w hq => by cases e <;> first | exact h2 a w hq | exact hq) (RunC.drawP (Q := SegQ Q J) k hm hp h a w s)
theorem RunC.drawPX {X : Type} {id : Nat} {l : List Oper} {news0 : Blks} {q : Regs} (k : Nat) (n0 : Blks) (R : X → Regs → Regs) (C V T : X → Blks) (Inv : X → Prop) (hm : P.follows .mixedOrders = true) (hp : Pick news0 news) (_hs : Sub q r) (_hn : Pick n0 news)
    (h : RunA P l.toArray (PanQ (SegQ Q (MeetP n ds W (fun x => R x q) C (fun x => V x ++ (n0 ++ T x)) Inv)) n r ds W chg news0) k (fun c => c = chg) news0 n l.toArray.size (Array.replicate l.toArray.size false) r ds W chg news)
    (h2 : ∀ x, Inv x → RunE Q n .normal (R x q) ds W (C x) (V x ++ (n0 ++ T x))) : RunC P Q n (.region id l.toArray true) r ds W chg news :=
  RunC.drawPJ k hm hp h (fun a w hj => by
    obtain ⟨x, hi, sx⟩ := hj
    exact h2 x hi a w sx)
theorem RunE.seg_panic {J : Act → World → Prop} {c : List PanicEntry} (h : RunE Q n (.panic c) r ds W chg news) : RunE (SegQ Q J) n (.panic c) r ds W chg news := h
theorem RunL.deferC {x : Operand} {fn : Fn} {cap : Array Value} {rest : List Oper} {ty : TypeId} {pos : String} {after : Array Edge} {ats : Array TypeId} (hx : rev r x = some (.func fn #[] cap))
    (h : RunL P ops Q n rest r ({ target := .fn fn cap, args := #[] } :: ds) W chg news) :
    RunL P ops Q n ({ dst := none, op := .defer { callee := .value x, args := #[], argTypes := ats }, type := ty, pos, after, guard := none } :: rest) r ds W chg news := fun a w s =>
  wpList_plain rfl fun K hK => by
    have h1 := s.agree.eval hx
    have e : (execOp a.eval { dst := none, op := .defer { callee := .value x, args := #[], argTypes := ats }, type := ty, pos, after, guard := none }).run P w = .ok (.defer { target := .fn fn cap, args := #[] }) w := by
      simp [execOp, resolve, h1, Deferred.ofValue]
    unfold Oper.wp
    rw [e, Oper.upon_defer]
    exact hK _ _ (h _ _ ⟨s.size, s.agree, by rw [← s.defers]; rfl, s.mem⟩)
theorem RunI.callTN {α : Type} {o : Oper} {f : FuncId} {args : Array Value} {mis : Int → Value} {x : Except Int α} {v : α → Nat → Value} {nw : α → Nat → Blks} (ho : ops[i]? = some o) (hi : IsCall P r o f args) (hg : guardB ops r o.guard = some true) (hd : o.dst = some d) (hn : Nat.ble (d + 1) n = true)
    (hc : ∀ w, Mem W chg news w → Calls P f args w (TryN mis x v nw w)) (herr : ∀ k, x = .error k → RunE Q n (.panic [{ v := mis k, recovered := false }]) r ds W chg news)
    (hok : ∀ a, x = .ok a → ∀ b, RunK n K ((d, v a b) :: r) ds W chg (nw a b ++ news)) : RunI P ops Q n i K r ds W chg news :=
  RunI.call ho hi hg hc (fun a w e w' s hR => by
    unfold TryN at hR
    cases x with
    | ok y =>
      obtain ⟨b, rfl, hm⟩ := hR
      have s2 := s.put (Nat.le_of_ble_eq_true hn) (v y b)
      simp only [hd]
      exact hok y rfl b _ _ ⟨s2.size, s2.agree, s2.defers, s.mem.trans hm⟩
    | error k =>
      obtain ⟨rfl, hm⟩ := hR
      exact herr k rfl a w' ⟨s.size, s.agree, s.defers, s.mem.pass hm⟩)
end
end Go.Eng
/- Walks of package years: the panic that is turned into an error. -/
set_option linter.unusedSimpArgs false
set_option linter.unusedVariables false
namespace Go.Proofs.Ytjijeeadmhpfcaa
open Go Go.Eng Go.Pw1

theorem ycaught_nil (b : Nat) (W : World) : Calls Try.prog 34 #[.nilIface, .pointer (some ⟨b, 0, none⟩)] W (Pure (.tuple #[]) W) := by
  refine calls_start Try.func34 rfl rfl ?_
  refine RunC.seq ?_
  refine RunC.seq ?_
  refine RunC.region ?_
  refine RunL.val (Val.pure rfl) rfl rfl rfl ?_
  refine RunL.val (Val.eql_nil_nil rfl und_20) rfl rfl rfl ?_
  refine RunL.nil ?_
  refine RunE.next ?_
  refine RunC.cond rfl ?_ (fun h => absurd h (by simp))
  intro c0
  clear c0
  refine RunC.ret ?_
  refine RunE.pass_ret ?_
  exact RunE.retP (.r0 rfl) (by first | rfl | simp)
theorem ycaught_mis (b : Nat) (k : Int) (x : Value) (W : World) (hb : W.heap[b]? = some (.cells #[x] 31 (0, 0))) : Calls Try.prog 34 #[ymisf k, .pointer (some ⟨b, 0, none⟩)] W (Turns b (.cells #[.int .i64 k] 31 (0, 0)) (.tuple #[]) W) := by
  refine calls_start_chg hb Try.func34 rfl rfl ?_
  refine RunC.seq ?_
  refine RunC.seq ?_
  refine RunC.region ?_
  refine RunL.val (Val.pure rfl) rfl rfl rfl ?_
  refine RunL.val (Val.eql_iface_nil rfl und_20) rfl rfl rfl ?_
  refine RunL.nil ?_
  refine RunE.next ?_
  refine RunC.cond rfl (fun h => absurd h (by simp)) ?_
  intro c0
  clear c0
  refine RunC.skip ?_
  refine RunE.next ?_
  refine RunC.seq ?_
  refine RunC.region ?_
  refine RunL.val (Val.pure rfl) rfl rfl rfl ?_
  refine RunL.val (Val.assert_ok rfl noif_107) rfl rfl rfl ?_
  iterate 3 refine RunL.val (Val.pure rfl) rfl rfl rfl ?_
  refine RunL.new (New.alloc zero_107) rfl rfl rfl (fun b4 => ?_)
  refine RunL.sto (Sto.store rfl rfl .here ty_107 rfl rfl) rfl rfl ?_
  refine RunL.val (Val.pure rfl) rfl rfl rfl ?_
  refine RunL.nil ?_
  refine RunE.next ?_
  refine RunC.seq ?_
  refine RunC.seq ?_
  refine RunC.region ?_
  refine RunL.val (Val.pure rfl) rfl rfl rfl ?_
  refine RunL.val (Val.pure rfl) rfl rfl rfl ?_
  refine RunL.nil ?_
  refine RunE.next ?_
  refine RunC.cond rfl (fun h => absurd h (by simp)) ?_
  intro c1
  clear c1
  refine RunC.skip ?_
  refine RunE.next ?_
  refine RunC.region ?_
  refine RunL.val (Val.pure rfl) rfl rfl rfl ?_
  refine RunL.val (Val.fieldAddr rfl fld_107_0) rfl rfl rfl ?_
  refine RunL.val (Val.load_one rfl (.tail _ (.head _)) ty_31 rfl) rfl rfl rfl ?_
  refine RunL.val (Val.pure rfl) rfl rfl rfl ?_
  refine RunL.sto (Sto.store_chg rfl rfl .here ty_31 rfl rfl) rfl rfl ?_
  refine RunL.nil ?_
  exact RunE.fin (chg := [(b, _)]) (.r0 rfl) (fun _ hm => ⟨rfl, hm.drop⟩)
theorem yMoved_calm (b : Nat) (w : World) : CallsD Try.prog 33 #[.pointer (some ⟨b, 0, none⟩)] .returning w fun e u w' => (∃ v, e = .returned v) ∧ u = .returning ∧ Mem w [] [] w' := by
  refine callsD_of_wpS Try.func33 rfl fun c₀ cs hu => ?_
  refine wpS_region ?_
  simp [wpOpsS, go_sem, recoverD, hu, Try.ntmps33, Exit.thenS]
  refine (ycaught_nil b w).mono ?_
  rintro e w' ⟨rfl, hm⟩
  exact ⟨rfl, .returning, by rw [← hu], _, results_none rfl _ _ _, ⟨_, rfl⟩, rfl, hm⟩
theorem yMoved_wild (b : Nat) (k : Int) (x : Value) (w : World) (hb : w.heap[b]? = some (.cells #[x] 31 (0, 0))) : CallsD Try.prog 33 #[.pointer (some ⟨b, 0, none⟩)] (.panicking [{ v := ymisf k, recovered := false }]) w fun e u w' =>
    (∃ v, e = .returned v) ∧ u = .panicking [{ v := ymisf k, recovered := true }] ∧ Mem w [(b, .cells #[.int .i64 k] 31 (0, 0))] [] w' := by
  refine callsD_of_wpS Try.func33 rfl fun c₀ cs hu => ?_
  refine wpS_region ?_
  simp [wpOpsS, go_sem, recoverD, hu, Try.ntmps33, Exit.thenS]
  refine (ycaught_mis b k x w hb).mono ?_
  rintro e w' ⟨rfl, hm⟩
  exact ⟨rfl, .panicking [{ v := ymisf k, recovered := true }], rfl, _, results_none rfl _ _ _, ⟨_, rfl⟩, rfl, hm⟩
theorem yMoved_catches : Catches Try.prog 33 31 ymisf := ⟨yMoved_calm, fun b k x w h => yMoved_wild b k x w h⟩
theorem yHeights_calm (b : Nat) (w : World) : CallsD Try.prog 40 #[.pointer (some ⟨b, 0, none⟩)] .returning w fun e u w' => (∃ v, e = .returned v) ∧ u = .returning ∧ Mem w [] [] w' := by
  refine callsD_of_wpS Try.func40 rfl fun c₀ cs hu => ?_
  refine wpS_region ?_
  simp [wpOpsS, go_sem, recoverD, hu, Try.ntmps40, Exit.thenS]
  refine (ycaught_nil b w).mono ?_
  rintro e w' ⟨rfl, hm⟩
  exact ⟨rfl, .returning, by rw [← hu], _, results_none rfl _ _ _, ⟨_, rfl⟩, rfl, hm⟩
theorem yHeights_wild (b : Nat) (k : Int) (x : Value) (w : World) (hb : w.heap[b]? = some (.cells #[x] 31 (0, 0))) : CallsD Try.prog 40 #[.pointer (some ⟨b, 0, none⟩)] (.panicking [{ v := ymisf k, recovered := false }]) w fun e u w' =>
    (∃ v, e = .returned v) ∧ u = .panicking [{ v := ymisf k, recovered := true }] ∧ Mem w [(b, .cells #[.int .i64 k] 31 (0, 0))] [] w' := by
  refine callsD_of_wpS Try.func40 rfl fun c₀ cs hu => ?_
  refine wpS_region ?_
  simp [wpOpsS, go_sem, recoverD, hu, Try.ntmps40, Exit.thenS]
  refine (ycaught_mis b k x w hb).mono ?_
  rintro e w' ⟨rfl, hm⟩
  exact ⟨rfl, .panicking [{ v := ymisf k, recovered := true }], rfl, _, results_none rfl _ _ _, ⟨_, rfl⟩, rfl, hm⟩
theorem yHeights_catches : Catches Try.prog 40 31 ymisf := ⟨yHeights_calm, fun b k x w h => yHeights_wild b k x w h⟩
theorem ySank_calm (b : Nat) (w : World) : CallsD Try.prog 45 #[.pointer (some ⟨b, 0, none⟩)] .returning w fun e u w' => (∃ v, e = .returned v) ∧ u = .returning ∧ Mem w [] [] w' := by
  refine callsD_of_wpS Try.func45 rfl fun c₀ cs hu => ?_
  refine wpS_region ?_
  simp [wpOpsS, go_sem, recoverD, hu, Try.ntmps45, Exit.thenS]
  refine (ycaught_nil b w).mono ?_
  rintro e w' ⟨rfl, hm⟩
  exact ⟨rfl, .returning, by rw [← hu], _, results_none rfl _ _ _, ⟨_, rfl⟩, rfl, hm⟩
theorem ySank_wild (b : Nat) (k : Int) (x : Value) (w : World) (hb : w.heap[b]? = some (.cells #[x] 31 (0, 0))) : CallsD Try.prog 45 #[.pointer (some ⟨b, 0, none⟩)] (.panicking [{ v := ymisf k, recovered := false }]) w fun e u w' =>
    (∃ v, e = .returned v) ∧ u = .panicking [{ v := ymisf k, recovered := true }] ∧ Mem w [(b, .cells #[.int .i64 k] 31 (0, 0))] [] w' := by
  refine callsD_of_wpS Try.func45 rfl fun c₀ cs hu => ?_
  refine wpS_region ?_
  simp [wpOpsS, go_sem, recoverD, hu, Try.ntmps45, Exit.thenS]
  refine (ycaught_mis b k x w hb).mono ?_
  rintro e w' ⟨rfl, hm⟩
  exact ⟨rfl, .panicking [{ v := ymisf k, recovered := true }], rfl, _, results_none rfl _ _ _, ⟨_, rfl⟩, rfl, hm⟩
theorem ySank_catches : Catches Try.prog 45 31 ymisf := ⟨ySank_calm, fun b k x w h => ySank_wild b k x w h⟩
theorem yRate_calm (b : Nat) (w : World) : CallsD Try.prog 46 #[.pointer (some ⟨b, 0, none⟩)] .returning w fun e u w' => (∃ v, e = .returned v) ∧ u = .returning ∧ Mem w [] [] w' := by
  refine callsD_of_wpS Try.func46 rfl fun c₀ cs hu => ?_
  refine wpS_region ?_
  simp [wpOpsS, go_sem, recoverD, hu, Try.ntmps46, Exit.thenS]
  refine (ycaught_nil b w).mono ?_
  rintro e w' ⟨rfl, hm⟩
  exact ⟨rfl, .returning, by rw [← hu], _, results_none rfl _ _ _, ⟨_, rfl⟩, rfl, hm⟩
theorem yRate_wild (b : Nat) (k : Int) (x : Value) (w : World) (hb : w.heap[b]? = some (.cells #[x] 31 (0, 0))) : CallsD Try.prog 46 #[.pointer (some ⟨b, 0, none⟩)] (.panicking [{ v := ymisf k, recovered := false }]) w fun e u w' =>
    (∃ v, e = .returned v) ∧ u = .panicking [{ v := ymisf k, recovered := true }] ∧ Mem w [(b, .cells #[.int .i64 k] 31 (0, 0))] [] w' := by
  refine callsD_of_wpS Try.func46 rfl fun c₀ cs hu => ?_
  refine wpS_region ?_
  simp [wpOpsS, go_sem, recoverD, hu, Try.ntmps46, Exit.thenS]
  refine (ycaught_mis b k x w hb).mono ?_
  rintro e w' ⟨rfl, hm⟩
  exact ⟨rfl, .panicking [{ v := ymisf k, recovered := true }], rfl, _, results_none rfl _ _ _, ⟨_, rfl⟩, rfl, hm⟩
theorem yRate_catches : Catches Try.prog 46 31 ymisf := ⟨yRate_calm, fun b k x w h => yRate_wild b k x w h⟩
theorem yArrives_calm (b : Nat) (w : World) : CallsD Try.prog 58 #[.pointer (some ⟨b, 0, none⟩)] .returning w fun e u w' => (∃ v, e = .returned v) ∧ u = .returning ∧ Mem w [] [] w' := by
  refine callsD_of_wpS Try.func58 rfl fun c₀ cs hu => ?_
  refine wpS_region ?_
  simp [wpOpsS, go_sem, recoverD, hu, Try.ntmps58, Exit.thenS]
  refine (ycaught_nil b w).mono ?_
  rintro e w' ⟨rfl, hm⟩
  exact ⟨rfl, .returning, by rw [← hu], _, results_none rfl _ _ _, ⟨_, rfl⟩, rfl, hm⟩
theorem yArrives_wild (b : Nat) (k : Int) (x : Value) (w : World) (hb : w.heap[b]? = some (.cells #[x] 31 (0, 0))) : CallsD Try.prog 58 #[.pointer (some ⟨b, 0, none⟩)] (.panicking [{ v := ymisf k, recovered := false }]) w fun e u w' =>
    (∃ v, e = .returned v) ∧ u = .panicking [{ v := ymisf k, recovered := true }] ∧ Mem w [(b, .cells #[.int .i64 k] 31 (0, 0))] [] w' := by
  refine callsD_of_wpS Try.func58 rfl fun c₀ cs hu => ?_
  refine wpS_region ?_
  simp [wpOpsS, go_sem, recoverD, hu, Try.ntmps58, Exit.thenS]
  refine (ycaught_mis b k x w hb).mono ?_
  rintro e w' ⟨rfl, hm⟩
  exact ⟨rfl, .panicking [{ v := ymisf k, recovered := true }], rfl, _, results_none rfl _ _ _, ⟨_, rfl⟩, rfl, hm⟩
theorem yArrives_catches : Catches Try.prog 58 31 ymisf := ⟨yArrives_calm, fun b k x w h => yArrives_wild b k x w h⟩
theorem yStays_calmIn (b : Nat) (w : World) : CallsDIn Fence.wide 8 Try.prog 62 #[.pointer (some ⟨b, 0, none⟩)] .returning w fun e u w' => (∃ v, e = .returned v) ∧ u = .returning ∧ Mem w [] [] w' := by
  refine callsDIn_wide_of_wpS Try.func62 rfl fun c₀ cs hu => ?_
  refine wpS_region ?_
  simp [wpOpsS, go_sem, recoverD, hu, Try.ntmps62, Exit.thenS]
  refine (ycaught_nil b w).mono ?_
  rintro e w' ⟨rfl, hm⟩
  exact ⟨rfl, .returning, by rw [← hu], _, results_none rfl _ _ _, ⟨_, rfl⟩, rfl, hm⟩
theorem yStays_wildIn (b : Nat) (k : Int) (x : Value) (w : World) (hb : w.heap[b]? = some (.cells #[x] 31 (0, 0))) : CallsDIn Fence.wide 8 Try.prog 62 #[.pointer (some ⟨b, 0, none⟩)] (.panicking [{ v := ymisf k, recovered := false }]) w fun e u w' =>
    (∃ v, e = .returned v) ∧ u = .panicking [{ v := ymisf k, recovered := true }] ∧ Mem w [(b, .cells #[.int .i64 k] 31 (0, 0))] [] w' := by
  refine callsDIn_wide_of_wpS Try.func62 rfl fun c₀ cs hu => ?_
  refine wpS_region ?_
  simp [wpOpsS, go_sem, recoverD, hu, Try.ntmps62, Exit.thenS]
  refine (ycaught_mis b k x w hb).mono ?_
  rintro e w' ⟨rfl, hm⟩
  exact ⟨rfl, .panicking [{ v := ymisf k, recovered := true }], rfl, _, results_none rfl _ _ _, ⟨_, rfl⟩, rfl, hm⟩
theorem yStays_catches : CatchesIn Try.prog 62 31 ymisf := ⟨yStays_calmIn, fun b k x w h => yStays_wildIn b k x w h⟩
theorem yFastest_calmIn (b : Nat) (w : World) : CallsDIn Fence.wide 8 Try.prog 65 #[.pointer (some ⟨b, 0, none⟩)] .returning w fun e u w' => (∃ v, e = .returned v) ∧ u = .returning ∧ Mem w [] [] w' := by
  refine callsDIn_wide_of_wpS Try.func65 rfl fun c₀ cs hu => ?_
  refine wpS_region ?_
  simp [wpOpsS, go_sem, recoverD, hu, Try.ntmps65, Exit.thenS]
  refine (ycaught_nil b w).mono ?_
  rintro e w' ⟨rfl, hm⟩
  exact ⟨rfl, .returning, by rw [← hu], _, results_none rfl _ _ _, ⟨_, rfl⟩, rfl, hm⟩
theorem yFastest_wildIn (b : Nat) (k : Int) (x : Value) (w : World) (hb : w.heap[b]? = some (.cells #[x] 31 (0, 0))) : CallsDIn Fence.wide 8 Try.prog 65 #[.pointer (some ⟨b, 0, none⟩)] (.panicking [{ v := ymisf k, recovered := false }]) w fun e u w' =>
    (∃ v, e = .returned v) ∧ u = .panicking [{ v := ymisf k, recovered := true }] ∧ Mem w [(b, .cells #[.int .i64 k] 31 (0, 0))] [] w' := by
  refine callsDIn_wide_of_wpS Try.func65 rfl fun c₀ cs hu => ?_
  refine wpS_region ?_
  simp [wpOpsS, go_sem, recoverD, hu, Try.ntmps65, Exit.thenS]
  refine (ycaught_mis b k x w hb).mono ?_
  rintro e w' ⟨rfl, hm⟩
  exact ⟨rfl, .panicking [{ v := ymisf k, recovered := true }], rfl, _, results_none rfl _ _ _, ⟨_, rfl⟩, rfl, hm⟩
theorem yFastest_catches : CatchesIn Try.prog 65 31 ymisf := ⟨yFastest_calmIn, fun b k x w h => yFastest_wildIn b k x w h⟩
theorem yAlike_calmIn (b : Nat) (w : World) : CallsDIn Fence.wide 8 Try.prog 52 #[.pointer (some ⟨b, 0, none⟩)] .returning w fun e u w' => (∃ v, e = .returned v) ∧ u = .returning ∧ Mem w [] [] w' := by
  refine callsDIn_wide_of_wpS Try.func52 rfl fun c₀ cs hu => ?_
  refine wpS_region ?_
  simp [wpOpsS, go_sem, recoverD, hu, Try.ntmps52, Exit.thenS]
  refine (ycaught_nil b w).mono ?_
  rintro e w' ⟨rfl, hm⟩
  exact ⟨rfl, .returning, by rw [← hu], _, results_none rfl _ _ _, ⟨_, rfl⟩, rfl, hm⟩
theorem yAlike_wildIn (b : Nat) (k : Int) (x : Value) (w : World) (hb : w.heap[b]? = some (.cells #[x] 31 (0, 0))) : CallsDIn Fence.wide 8 Try.prog 52 #[.pointer (some ⟨b, 0, none⟩)] (.panicking [{ v := ymisf k, recovered := false }]) w fun e u w' =>
    (∃ v, e = .returned v) ∧ u = .panicking [{ v := ymisf k, recovered := true }] ∧ Mem w [(b, .cells #[.int .i64 k] 31 (0, 0))] [] w' := by
  refine callsDIn_wide_of_wpS Try.func52 rfl fun c₀ cs hu => ?_
  refine wpS_region ?_
  simp [wpOpsS, go_sem, recoverD, hu, Try.ntmps52, Exit.thenS]
  refine (ycaught_mis b k x w hb).mono ?_
  rintro e w' ⟨rfl, hm⟩
  exact ⟨rfl, .panicking [{ v := ymisf k, recovered := true }], rfl, _, results_none rfl _ _ _, ⟨_, rfl⟩, rfl, hm⟩
theorem yAlike_catches : CatchesIn Try.prog 52 31 ymisf := ⟨yAlike_calmIn, fun b k x w h => yAlike_wildIn b k x w h⟩
end Go.Proofs.Ytjijeeadmhpfcaa
/- Walks of package years: a glacier that is looked at, and how far away a thing was. -/
set_option linter.unusedSimpArgs false
set_option linter.unusedVariables false
namespace Go.Proofs.Ytjijeeadmhpfcaa
open Go Go.Eng Go.Pw1

theorem yopen_calls (g : Gl) (a : Ga) (valid : Bool) (W : World) (hG : GIn W g a) :
    Calls Try.prog 35 #[g.v a, .bool valid] W (TryN ymisf (openG g valid) (fun _ b => .pointer (some ⟨b, 0, none⟩)) (fun _ b => [(b, .cells (g.cells a).toArray 110 (0, 0))]) W) := by
  refine calls_start Try.func35 rfl rfl ?_
  refine RunC.seq ?_
  refine RunC.region ?_
  refine RunL.new (New.box rfl) rfl rfl rfl (fun b2 => ?_)
  refine RunL.val (Val.pure rfl) rfl rfl rfl ?_
  refine RunL.nil ?_
  refine RunE.next ?_
  refine RunC.seq ?_
  refine RunC.region ?_
  refine RunL.val (Val.load_agg rfl (.head _) ty_28 rfl) rfl rfl rfl ?_
  refine RunL.val (Val.build (parts := [(0, .tmp 12)]) rfl zero_110 places_110 rfl) rfl rfl rfl ?_
  refine RunL.new (New.box rfl) rfl rfl rfl (fun b14 => ?_)
  refine RunL.val (Val.pure rfl) rfl rfl rfl ?_
  refine RunL.nil ?_
  refine RunE.next ?_
  refine RunC.seq ?_
  refine RunC.region ?_
  refine RunL.new (New.alloc zero_111) rfl rfl rfl (fun b6 => ?_)
  refine RunL.nil ?_
  refine RunE.next ?_
  refine RunC.seq ?_
  refine RunC.seq ?_
  refine RunC.region ?_
  refine RunL.callP (isCall_func rfl ent_73) rfl rfl rfl (fun w hm => yviews_calls w) ?_
  refine RunL.val (Val.pure rfl) rfl rfl rfl ?_
  refine RunL.nil ?_
  refine RunE.next ?_
  refine RunC.block ?_
  refine RunC.unroll 2 ?_
  refine RunC.seq ?_
  refine RunC.region ?_
  refine RunL.val (Val.pure rfl) rfl rfl rfl ?_
  refine RunL.nil ?_
  refine RunE.next ?_
  refine RunC.seq ?_
  refine RunC.cond rfl ?_ (fun h => absurd h (by decide))
  intro c0
  clear c0
  refine RunC.skip ?_
  refine RunE.next ?_
  refine RunC.seq ?_
  refine RunC.block ?_
  refine RunC.seq ?_
  refine RunC.region ?_
  refine RunL.val (Val.pure rfl) rfl rfl rfl ?_
  refine RunL.val (Val.index1 rfl rfl arr1_113 (by decide) (by decide) rfl) rfl rfl rfl ?_
  refine RunL.val (Val.pure rfl) rfl rfl rfl ?_
  refine RunL.val (Val.pure rfl) rfl rfl rfl ?_
  refine RunL.nil ?_
  refine RunE.next ?_
  refine RunC.region ?_
  iterate 3 refine RunL.val (Val.pure rfl) rfl rfl rfl ?_
  refine RunL.callP (isCall_value rfl rfl ent_90) rfl rfl rfl (fun w hm => yfirst_calls g a _ w (hm.at (.tail _ (.head _)))) ?_
  refine RunL.callP (isCall_func rfl ent_74) rfl rfl rfl (fun w hm => Power_calls g.f a.q1 a.b1 a.o1 a.c1 w (hG.mono hm).s1 hG.l1) ?_
  iterate 3 refine RunL.val (Val.pure rfl) rfl rfl rfl ?_
  refine RunL.val (Val.indexAddr_arr rfl rfl arr_111 (by decide) (by decide)) rfl rfl rfl ?_
  refine RunL.sto (Sto.store rfl rfl .here ty_31 rfl rfl) rfl rfl ?_
  refine RunL.nil ?_
  refine RunE.block_normal ?_
  refine RunE.next ?_
  refine RunC.region ?_
  refine RunL.val (Val.add rfl rfl (IntWalk.i64_in _ ⟨by decide, by decide⟩)) rfl rfl rfl ?_
  refine RunL.val (Val.pure rfl) rfl rfl rfl ?_
  refine RunL.nil ?_
  refine RunE.rounds ?_
  refine RunC.seq ?_
  refine RunC.region ?_
  refine RunL.val (Val.pure rfl) rfl rfl rfl ?_
  refine RunL.nil ?_
  refine RunE.next ?_
  refine RunC.seq ?_
  refine RunC.cond rfl ?_ (fun h => absurd h (by decide))
  intro c0
  clear c0
  refine RunC.skip ?_
  refine RunE.next ?_
  refine RunC.seq ?_
  refine RunC.block ?_
  refine RunC.seq ?_
  refine RunC.region ?_
  refine RunL.val (Val.pure rfl) rfl rfl rfl ?_
  refine RunL.val (Val.index1 rfl rfl arr1_113 (by decide) (by decide) rfl) rfl rfl rfl ?_
  refine RunL.val (Val.pure rfl) rfl rfl rfl ?_
  refine RunL.val (Val.pure rfl) rfl rfl rfl ?_
  refine RunL.nil ?_
  refine RunE.next ?_
  refine RunC.region ?_
  iterate 3 refine RunL.val (Val.pure rfl) rfl rfl rfl ?_
  refine RunL.callP (isCall_value rfl rfl ent_91) rfl rfl rfl (fun w hm => ysecond_calls g a _ w (hm.at (.tail _ (.head _)))) ?_
  refine RunL.callP (isCall_func rfl ent_74) rfl rfl rfl (fun w hm => Power_calls g.s a.q2 a.b2 a.o2 a.c2 w (hG.mono hm).s2 hG.l2) ?_
  iterate 3 refine RunL.val (Val.pure rfl) rfl rfl rfl ?_
  refine RunL.val (Val.indexAddr_arr rfl rfl arr_111 (by decide) (by decide)) rfl rfl rfl ?_
  refine RunL.sto (Sto.store rfl rfl .here ty_31 rfl rfl) rfl rfl ?_
  refine RunL.nil ?_
  refine RunE.block_normal ?_
  refine RunE.next ?_
  refine RunC.region ?_
  refine RunL.val (Val.add rfl rfl (IntWalk.i64_in _ ⟨by decide, by decide⟩)) rfl rfl rfl ?_
  refine RunL.val (Val.pure rfl) rfl rfl rfl ?_
  refine RunL.nil ?_
  refine RunE.rounds ?_
  refine RunC.seq ?_
  refine RunC.region ?_
  refine RunL.val (Val.pure rfl) rfl rfl rfl ?_
  refine RunL.nil ?_
  refine RunE.next ?_
  refine RunC.seq ?_
  refine RunC.cond rfl (fun h => absurd h (by decide)) ?_
  intro c0
  clear c0
  refine RunC.exit ?_
  refine RunE.pass_exit ?_
  refine RunE.pass_exit ?_
  refine RunE.block_here ?_
  refine RunE.next ?_
  refine RunC.seq ?_
  refine RunC.region ?_
  refine RunL.val (Val.fieldAddr rfl fld_28_0) rfl rfl rfl ?_
  refine RunL.val (Val.fieldAddr rfl fld_26_5) rfl rfl rfl ?_
  refine RunL.val (Val.load_one rfl (.tail _ (.tail _ (.head _))) ty_24 rfl) rfl rfl rfl ?_
  refine RunL.val (Val.len_sl rfl sl_24) rfl rfl rfl ?_
  refine RunL.val (Val.fieldAddr rfl fld_28_1) rfl rfl rfl ?_
  refine RunL.val (Val.fieldAddr rfl fld_26_5) rfl rfl rfl ?_
  refine RunL.val (Val.load_one rfl (.tail _ (.tail _ (.head _))) ty_24 rfl) rfl rfl rfl ?_
  refine RunL.val (Val.len_sl rfl sl_24) rfl rfl rfl ?_
  refine RunL.val (Val.pure rfl) rfl rfl rfl ?_
  refine RunL.val (Val.pure rfl) rfl rfl rfl ?_
  refine RunL.andPart (dj := 39) (dp := 43) 4 rfl (fun g39 => by
    have g39' := g39
    try simp only [decide_eq_true_eq, decide_eq_false_iff_not, Bool.not_eq_true', Bool.not_eq_false', Bool.and_eq_true, Bool.or_eq_true, Bool.and_eq_false_iff, Bool.or_eq_false_iff, Int.not_le, Int.not_lt] at g39'
    refine RunL.val (Val.fieldAddr rfl fld_28_2) rfl rfl rfl ?_
    refine RunL.val (Val.load_one rfl (.tail _ (.tail _ (.head _))) ty_3 rfl) rfl rfl rfl ?_
    refine RunL.callP (isCall_func rfl ent_53) rfl rfl rfl (fun w hm => ywithin_calls _ _ _ w) ?_
    refine RunL.val (Val.pure rfl) rfl rfl rfl ?_
    exact RunL.segEnd (Sub.cons rfl (Sub.skip rfl (Sub.skip rfl (Sub.skip rfl (Sub.skip rfl (Sub.same rfl (by rw [g39]) (Sub.refl _))))))) (List.Sublist.refl _)
  ) (fun g39 => by
    have g39' := g39
    try simp only [decide_eq_true_eq, decide_eq_false_iff_not, Bool.not_eq_true', Bool.not_eq_false', Bool.and_eq_true, Bool.or_eq_true, Bool.and_eq_false_iff, Bool.or_eq_false_iff, Int.not_le, Int.not_lt] at g39'
    iterate 3 refine RunL.no rfl rfl rfl ?_
    refine RunL.val (Val.pure rfl) rfl rfl rfl ?_
    exact RunL.segEnd (Sub.cons rfl (Sub.skip rfl (Sub.skip rfl (Sub.skip rfl (Sub.skip rfl (Sub.same rfl (by rw [g39]) (Sub.refl _))))))) (List.Sublist.refl _)
  ) ?_
  refine RunL.val (Val.pure rfl) rfl rfl rfl ?_
  refine RunL.andPart (dj := 44) (dp := 48) 4 rfl (fun g44 => by
    have g44' := g44
    try simp only [decide_eq_true_eq, decide_eq_false_iff_not, Bool.not_eq_true', Bool.not_eq_false', Bool.and_eq_true, Bool.or_eq_true, Bool.and_eq_false_iff, Bool.or_eq_false_iff, Int.not_le, Int.not_lt] at g44'
    refine RunL.val (Val.fieldAddr rfl fld_28_3) rfl rfl rfl ?_
    refine RunL.val (Val.load_one rfl (.tail _ (.tail _ (.head _))) ty_3 rfl) rfl rfl rfl ?_
    refine RunL.callP (isCall_func rfl ent_53) rfl rfl rfl (fun w hm => ywithin_calls _ _ _ w) ?_
    refine RunL.val (Val.pure rfl) rfl rfl rfl ?_
    exact RunL.segEnd (Sub.cons rfl (Sub.skip rfl (Sub.skip rfl (Sub.skip rfl (Sub.skip rfl (Sub.same rfl (by rw [g44]) (Sub.refl _))))))) (List.Sublist.refl _)
  ) (fun g44 => by
    have g44' := g44
    try simp only [decide_eq_true_eq, decide_eq_false_iff_not, Bool.not_eq_true', Bool.not_eq_false', Bool.and_eq_true, Bool.or_eq_true, Bool.and_eq_false_iff, Bool.or_eq_false_iff, Int.not_le, Int.not_lt] at g44'
    iterate 3 refine RunL.no rfl rfl rfl ?_
    refine RunL.val (Val.pure rfl) rfl rfl rfl ?_
    exact RunL.segEnd (Sub.cons rfl (Sub.skip rfl (Sub.skip rfl (Sub.skip rfl (Sub.skip rfl (Sub.same rfl (by rw [g44]) (Sub.refl _))))))) (List.Sublist.refl _)
  ) ?_
  refine RunL.val (Val.pure rfl) rfl rfl rfl ?_
  refine RunL.andPart (dj := 49) (dp := 55) 6 rfl (fun g49 => by
    have g49' := g49
    try simp only [decide_eq_true_eq, decide_eq_false_iff_not, Bool.not_eq_true', Bool.not_eq_false', Bool.and_eq_true, Bool.or_eq_true, Bool.and_eq_false_iff, Bool.or_eq_false_iff, Int.not_le, Int.not_lt] at g49'
    refine RunL.val (Val.fieldAddr rfl fld_28_2) rfl rfl rfl ?_
    refine RunL.val (Val.load_one rfl (.tail _ (.tail _ (.head _))) ty_3 rfl) rfl rfl rfl ?_
    refine RunL.val (Val.fieldAddr rfl fld_28_3) rfl rfl rfl ?_
    refine RunL.val (Val.load_one rfl (.tail _ (.tail _ (.head _))) ty_3 rfl) rfl rfl rfl ?_
    refine RunL.val (Val.pure rfl) rfl rfl rfl ?_
    refine RunL.val (Val.pure rfl) rfl rfl rfl ?_
    exact RunL.segEnd (Sub.cons rfl (Sub.skip rfl (Sub.skip rfl (Sub.skip rfl (Sub.skip rfl (Sub.skip rfl (Sub.skip rfl (Sub.same rfl (by rw [g49]) (Sub.refl _))))))))) (List.Sublist.refl _)
  ) (fun g49 => by
    have g49' := g49
    try simp only [decide_eq_true_eq, decide_eq_false_iff_not, Bool.not_eq_true', Bool.not_eq_false', Bool.and_eq_true, Bool.or_eq_true, Bool.and_eq_false_iff, Bool.or_eq_false_iff, Int.not_le, Int.not_lt] at g49'
    iterate 5 refine RunL.no rfl rfl rfl ?_
    refine RunL.val (Val.pure rfl) rfl rfl rfl ?_
    exact RunL.segEnd (Sub.cons rfl (Sub.skip rfl (Sub.skip rfl (Sub.skip rfl (Sub.skip rfl (Sub.skip rfl (Sub.skip rfl (Sub.same rfl (by rw [g49]) (Sub.refl _))))))))) (List.Sublist.refl _)
  ) ?_
  refine RunL.val (Val.pure rfl) rfl rfl rfl ?_
  refine RunL.nil ?_
  refine RunE.next ?_
  refine RunC.seq ?_
  refine RunC.region ?_
  refine RunL.val (Val.pure rfl) rfl rfl rfl ?_
  refine RunL.val (Val.pure rfl) rfl rfl rfl ?_
  refine RunL.andPart (dj := 57) (dp := 61) 4 rfl (fun g57 => by
    have g57' := g57
    try simp only [decide_eq_true_eq, decide_eq_false_iff_not, Bool.not_eq_true', Bool.not_eq_false', Bool.and_eq_true, Bool.or_eq_true, Bool.and_eq_false_iff, Bool.or_eq_false_iff, Int.not_le, Int.not_lt] at g57'
    refine RunL.val (Val.indexAddr_arr rfl rfl arr_111 (by decide) (by decide)) rfl rfl rfl ?_
    refine RunL.val (Val.load_one rfl (.head _) ty_31 rfl) rfl rfl rfl ?_
    refine RunL.val (Val.pure rfl) rfl rfl rfl ?_
    refine RunL.val (Val.pure rfl) rfl rfl rfl ?_
    exact RunL.segEnd (Sub.cons rfl (Sub.skip rfl (Sub.skip rfl (Sub.skip rfl (Sub.skip rfl (Sub.same rfl (by rw [g57]) (Sub.refl _))))))) (List.Sublist.refl _)
  ) (fun g57 => by
    have g57' := g57
    try simp only [decide_eq_true_eq, decide_eq_false_iff_not, Bool.not_eq_true', Bool.not_eq_false', Bool.and_eq_true, Bool.or_eq_true, Bool.and_eq_false_iff, Bool.or_eq_false_iff, Int.not_le, Int.not_lt] at g57'
    iterate 3 refine RunL.no rfl rfl rfl ?_
    refine RunL.val (Val.pure rfl) rfl rfl rfl ?_
    exact RunL.segEnd (Sub.cons rfl (Sub.skip rfl (Sub.skip rfl (Sub.skip rfl (Sub.skip rfl (Sub.same rfl (by rw [g57]) (Sub.refl _))))))) (List.Sublist.refl _)
  ) ?_
  refine RunL.val (Val.pure rfl) rfl rfl rfl ?_
  refine RunL.andPart (dj := 62) (dp := 66) 4 rfl (fun g62 => by
    have g62' := g62
    try simp only [decide_eq_true_eq, decide_eq_false_iff_not, Bool.not_eq_true', Bool.not_eq_false', Bool.and_eq_true, Bool.or_eq_true, Bool.and_eq_false_iff, Bool.or_eq_false_iff, Int.not_le, Int.not_lt] at g62'
    refine RunL.val (Val.indexAddr_arr rfl rfl arr_111 (by decide) (by decide)) rfl rfl rfl ?_
    refine RunL.val (Val.load_one rfl (.head _) ty_31 rfl) rfl rfl rfl ?_
    refine RunL.val (Val.pure rfl) rfl rfl rfl ?_
    refine RunL.val (Val.pure rfl) rfl rfl rfl ?_
    exact RunL.segEnd (Sub.cons rfl (Sub.skip rfl (Sub.skip rfl (Sub.skip rfl (Sub.skip rfl (Sub.same rfl (by rw [g62]) (Sub.refl _))))))) (List.Sublist.refl _)
  ) (fun g62 => by
    have g62' := g62
    try simp only [decide_eq_true_eq, decide_eq_false_iff_not, Bool.not_eq_true', Bool.not_eq_false', Bool.and_eq_true, Bool.or_eq_true, Bool.and_eq_false_iff, Bool.or_eq_false_iff, Int.not_le, Int.not_lt] at g62'
    iterate 3 refine RunL.no rfl rfl rfl ?_
    refine RunL.val (Val.pure rfl) rfl rfl rfl ?_
    exact RunL.segEnd (Sub.cons rfl (Sub.skip rfl (Sub.skip rfl (Sub.skip rfl (Sub.skip rfl (Sub.same rfl (by rw [g62]) (Sub.refl _))))))) (List.Sublist.refl _)
  ) ?_
  refine RunL.callT (isCall_func rfl ent_42) rfl rfl rfl (fun w hm => yneed_calls _ _ w) (fun e67 he67 => ?_) (fun v67 hv67 => ?_)
  · obtain ⟨er67, rfl⟩ := need_err he67
    refine RunE.pass_panic ?_
    exact RunE.panicTN (by simp_all [openG, fitG])
  obtain ⟨ok67, rfl⟩ := need_ok hv67
  refine RunL.nil ?_
  refine RunE.next ?_
  refine RunC.seq ?_
  refine RunC.region ?_
  refine RunL.val (Val.pure rfl) rfl rfl rfl ?_
  refine RunL.callT (isCall_func rfl ent_42) rfl rfl rfl (fun w hm => yneed_calls _ _ w) (fun e69 he69 => ?_) (fun v69 hv69 => ?_)
  · obtain ⟨er69, rfl⟩ := need_err he69
    refine RunE.pass_panic ?_
    exact RunE.panicTN (by simp_all [openG, fitG])
  obtain ⟨ok69, rfl⟩ := need_ok hv69
  refine RunL.nil ?_
  refine RunE.next ?_
  refine RunC.seq ?_
  refine RunC.seq ?_
  refine RunC.region ?_
  refine RunL.val (Val.load_agg rfl (.head _) ty_111 rfl) rfl rfl rfl ?_
  refine RunL.val (Val.pure rfl) rfl rfl rfl ?_
  refine RunL.nil ?_
  refine RunE.next ?_
  refine RunC.block ?_
  refine RunC.unroll 2 ?_
  refine RunC.seq ?_
  refine RunC.region ?_
  refine RunL.val (Val.pure rfl) rfl rfl rfl ?_
  refine RunL.nil ?_
  refine RunE.next ?_
  refine RunC.seq ?_
  refine RunC.cond rfl ?_ (fun h => absurd h (by decide))
  intro c1
  clear c1
  refine RunC.skip ?_
  refine RunE.next ?_
  refine RunC.seq ?_
  refine RunC.block ?_
  refine RunC.seq ?_
  refine RunC.region ?_
  refine RunL.val (Val.index1 rfl rfl arr1_111 (by decide) (by decide) rfl) rfl rfl rfl ?_
  refine RunL.val (Val.pure rfl) rfl rfl rfl ?_
  refine RunL.nil ?_
  refine RunE.next ?_
  refine RunC.region ?_
  iterate 3 refine RunL.val (Val.pure rfl) rfl rfl rfl ?_
  refine RunL.callT (isCall_func rfl ent_42) rfl rfl rfl (fun w hm => yneed_calls _ _ w) (fun e77 he77 => ?_) (fun v77 hv77 => ?_)
  · obtain ⟨er77, rfl⟩ := need_err he77
    refine RunE.block_panic ?_
    refine RunE.pass_panic ?_
    refine RunE.pass_panic ?_
    refine RunE.block_panic ?_
    refine RunE.pass_panic ?_
    exact RunE.panicTN (by simp_all [openG, fitG])
  obtain ⟨ok77, rfl⟩ := need_ok hv77
  refine RunL.nil ?_
  refine RunE.block_normal ?_
  refine RunE.next ?_
  refine RunC.region ?_
  refine RunL.val (Val.add rfl rfl (IntWalk.i64_in _ ⟨by decide, by decide⟩)) rfl rfl rfl ?_
  refine RunL.val (Val.pure rfl) rfl rfl rfl ?_
  refine RunL.nil ?_
  refine RunE.rounds ?_
  refine RunC.seq ?_
  refine RunC.region ?_
  refine RunL.val (Val.pure rfl) rfl rfl rfl ?_
  refine RunL.nil ?_
  refine RunE.next ?_
  refine RunC.seq ?_
  refine RunC.cond rfl ?_ (fun h => absurd h (by decide))
  intro c1
  clear c1
  refine RunC.skip ?_
  refine RunE.next ?_
  refine RunC.seq ?_
  refine RunC.block ?_
  refine RunC.seq ?_
  refine RunC.region ?_
  refine RunL.val (Val.index1 rfl rfl arr1_111 (by decide) (by decide) rfl) rfl rfl rfl ?_
  refine RunL.val (Val.pure rfl) rfl rfl rfl ?_
  refine RunL.nil ?_
  refine RunE.next ?_
  refine RunC.region ?_
  iterate 3 refine RunL.val (Val.pure rfl) rfl rfl rfl ?_
  refine RunL.callT (isCall_func rfl ent_42) rfl rfl rfl (fun w hm => yneed_calls _ _ w) (fun e77 he77 => ?_) (fun v77 hv77 => ?_)
  · obtain ⟨er77, rfl⟩ := need_err he77
    refine RunE.block_panic ?_
    refine RunE.pass_panic ?_
    refine RunE.pass_panic ?_
    refine RunE.block_panic ?_
    refine RunE.pass_panic ?_
    exact RunE.panicTN (by simp_all [openG, fitG])
  obtain ⟨ok77, rfl⟩ := need_ok hv77
  refine RunL.nil ?_
  refine RunE.block_normal ?_
  refine RunE.next ?_
  refine RunC.region ?_
  refine RunL.val (Val.add rfl rfl (IntWalk.i64_in _ ⟨by decide, by decide⟩)) rfl rfl rfl ?_
  refine RunL.val (Val.pure rfl) rfl rfl rfl ?_
  refine RunL.nil ?_
  refine RunE.rounds ?_
  refine RunC.seq ?_
  refine RunC.region ?_
  refine RunL.val (Val.pure rfl) rfl rfl rfl ?_
  refine RunL.nil ?_
  refine RunE.next ?_
  refine RunC.seq ?_
  refine RunC.cond rfl (fun h => absurd h (by decide)) ?_
  intro c1
  clear c1
  refine RunC.exit ?_
  refine RunE.pass_exit ?_
  refine RunE.pass_exit ?_
  refine RunE.block_here ?_
  refine RunE.next ?_
  refine RunC.seq ?_
  refine RunC.region ?_
  refine RunL.val (Val.pure rfl) rfl rfl rfl ?_
  refine RunL.val (Val.pure rfl) rfl rfl rfl ?_
  refine RunL.nil ?_
  refine RunE.next ?_
  refine RunC.ret ?_
  exact RunE.retTN (a := ()) b14 (.r1 rfl (.tmp rfl)) (by simp_all [openG, fitG]) rfl (.cons (.there .here) rfl .nil)
theorem yfar_calls (g : Gl) (a : Ga) (n : Int) (b : Nat) (W : World) (hb : W.heap[b]? = some (.cells (g.cells a).toArray 110 (0, 0))) (hG : GIn W g a) :
    Calls Try.prog 41 #[.pointer (some ⟨b, 0, none⟩), .int .i64 n] W (Pure (.tuple #[z2v (farG g n), .bool (seenG g n)]) W) := by
  refine calls_start Try.func41 rfl rfl ?_
  refine RunC.seq ?_
  refine RunC.region ?_
  refine RunL.new (New.alloc zero_72) rfl rfl rfl (fun b4 => ?_)
  refine RunL.val (Val.pure rfl) rfl rfl rfl ?_
  refine RunL.nil ?_
  refine RunE.next ?_
  refine RunC.seq ?_
  refine RunC.region ?_
  refine RunL.val (Val.pure rfl) rfl rfl rfl ?_
  refine RunL.nil ?_
  refine RunE.next ?_
  refine RunC.seq ?_
  refine RunC.seq ?_
  refine RunC.region ?_
  refine RunL.callP (isCall_func rfl ent_73) rfl rfl rfl (fun w hm => yviews_calls w) ?_
  refine RunL.val (Val.pure rfl) rfl rfl rfl ?_
  refine RunL.nil ?_
  refine RunE.next ?_
  refine RunC.block ?_
  refine RunC.unroll 2 ?_
  refine RunC.seq ?_
  refine RunC.region ?_
  refine RunL.val (Val.pure rfl) rfl rfl rfl ?_
  refine RunL.nil ?_
  refine RunE.next ?_
  refine RunC.seq ?_
  refine RunC.cond rfl ?_ (fun h => absurd h (by decide))
  intro c0
  clear c0
  refine RunC.skip ?_
  refine RunE.next ?_
  refine RunC.seq ?_
  refine RunC.block ?_
  refine RunC.seq ?_
  refine RunC.region ?_
  refine RunL.val (Val.pure rfl) rfl rfl rfl ?_
  refine RunL.val (Val.index1 rfl rfl arr1_113 (by decide) (by decide) rfl) rfl rfl rfl ?_
  refine RunL.val (Val.pure rfl) rfl rfl rfl ?_
  refine RunL.val (Val.pure rfl) rfl rfl rfl ?_
  refine RunL.nil ?_
  refine RunE.next ?_
  refine RunC.seq ?_
  refine RunC.region ?_
  refine RunL.val (Val.pure rfl) rfl rfl rfl ?_
  refine RunL.val (Val.pure rfl) rfl rfl rfl ?_
  refine RunL.callP (isCall_value rfl rfl ent_90) rfl rfl rfl (fun w hm => yfirst_calls g a _ w (hm.old_at hb (by simp))) ?_
  refine RunL.val (Val.pure rfl) rfl rfl rfl ?_
  refine RunL.callP (isCall_func rfl ent_27) rfl rfl rfl (fun w hm => Distance_calls g.f n a.q1 a.b1 a.o1 a.c1 w (hG.mono hm).s1 hG.l1) ?_
  iterate 3 refine RunL.val (Val.pure rfl) rfl rfl rfl ?_
  refine RunL.new (New.alloc zero_23) rfl rfl rfl (fun b8 => ?_)
  refine RunL.sto (Sto.store rfl rfl .here ty_23 rfl rfl) rfl rfl ?_
  refine RunL.val (Val.pure rfl) rfl rfl rfl ?_
  refine RunL.nil ?_
  refine RunE.next ?_
  refine RunC.region ?_
  refine RunL.val (Val.pure rfl) rfl rfl rfl ?_
  refine RunL.val (Val.load_agg rfl (.head _) ty_23 rfl) rfl rfl rfl ?_
  refine RunL.val (Val.pure rfl) rfl rfl rfl ?_
  refine RunL.val (Val.pure rfl) rfl rfl rfl ?_
  refine RunL.andPart (dj := 26) (dp := 29) 3 rfl (fun g26 => by
    have g26' := g26
    try simp only [decide_eq_true_eq, decide_eq_false_iff_not, Bool.not_eq_true', Bool.not_eq_false', Bool.and_eq_true, Bool.or_eq_true, Bool.and_eq_false_iff, Bool.or_eq_false_iff, Int.not_le, Int.not_lt] at g26'
    iterate 3 refine RunL.val (Val.pure rfl) rfl rfl rfl ?_
    exact RunL.segEnd (Sub.cons rfl (Sub.skip rfl (Sub.skip rfl (Sub.skip rfl (Sub.same rfl (by rw [g26]) (Sub.refl _)))))) (List.Sublist.refl _)
  ) (fun g26 => by
    have g26' := g26
    try simp only [decide_eq_true_eq, decide_eq_false_iff_not, Bool.not_eq_true', Bool.not_eq_false', Bool.and_eq_true, Bool.or_eq_true, Bool.and_eq_false_iff, Bool.or_eq_false_iff, Int.not_le, Int.not_lt] at g26'
    refine RunL.no rfl rfl rfl ?_
    refine RunL.no rfl rfl rfl ?_
    refine RunL.val (Val.pure rfl) rfl rfl rfl ?_
    exact RunL.segEnd (Sub.cons rfl (Sub.skip rfl (Sub.skip rfl (Sub.skip rfl (Sub.same rfl (by rw [g26]) (Sub.refl _)))))) (List.Sublist.refl _)
  ) ?_
  refine RunL.val (Val.indexAddr_arr rfl rfl arr_72 (by decide) (by decide)) rfl rfl rfl ?_
  refine RunL.sto (Sto.store rfl rfl (.there .here) ty_64 rfl rfl) rfl rfl ?_
  refine RunL.val (Val.pure rfl) rfl rfl rfl ?_
  refine RunL.nil ?_
  refine RunE.block_normal ?_
  refine RunE.next ?_
  refine RunC.region ?_
  refine RunL.val (Val.add rfl rfl (IntWalk.i64_in _ ⟨by decide, by decide⟩)) rfl rfl rfl ?_
  refine RunL.val (Val.pure rfl) rfl rfl rfl ?_
  refine RunL.nil ?_
  refine RunE.keep (Sub.cons (t := 0) rfl (Sub.cons (t := 1) rfl (Sub.cons (t := 4) rfl (Sub.cons (t := 5) rfl (Sub.cons (t := 10) rfl (Sub.cons (t := 11) rfl (Sub.nil _))))))) (.cons (.there .here) rfl .nil) ?_
  refine RunE.rounds ?_
  refine RunC.seq ?_
  refine RunC.region ?_
  refine RunL.val (Val.pure rfl) rfl rfl rfl ?_
  refine RunL.nil ?_
  refine RunE.next ?_
  refine RunC.seq ?_
  refine RunC.cond rfl ?_ (fun h => absurd h (by decide))
  intro c0
  clear c0
  refine RunC.skip ?_
  refine RunE.next ?_
  refine RunC.seq ?_
  refine RunC.block ?_
  refine RunC.seq ?_
  refine RunC.region ?_
  refine RunL.val (Val.pure rfl) rfl rfl rfl ?_
  refine RunL.val (Val.index1 rfl rfl arr1_113 (by decide) (by decide) rfl) rfl rfl rfl ?_
  refine RunL.val (Val.pure rfl) rfl rfl rfl ?_
  refine RunL.val (Val.pure rfl) rfl rfl rfl ?_
  refine RunL.nil ?_
  refine RunE.next ?_
  refine RunC.seq ?_
  refine RunC.region ?_
  refine RunL.val (Val.pure rfl) rfl rfl rfl ?_
  refine RunL.val (Val.pure rfl) rfl rfl rfl ?_
  refine RunL.callP (isCall_value rfl rfl ent_91) rfl rfl rfl (fun w hm => ysecond_calls g a _ w (hm.old_at hb (by simp))) ?_
  refine RunL.val (Val.pure rfl) rfl rfl rfl ?_
  refine RunL.callP (isCall_func rfl ent_27) rfl rfl rfl (fun w hm => Distance_calls g.s n a.q2 a.b2 a.o2 a.c2 w (hG.mono hm).s2 hG.l2) ?_
  iterate 3 refine RunL.val (Val.pure rfl) rfl rfl rfl ?_
  refine RunL.new (New.alloc zero_23) rfl rfl rfl (fun b8 => ?_)
  refine RunL.sto (Sto.store rfl rfl .here ty_23 rfl rfl) rfl rfl ?_
  refine RunL.val (Val.pure rfl) rfl rfl rfl ?_
  refine RunL.nil ?_
  refine RunE.next ?_
  refine RunC.region ?_
  refine RunL.val (Val.pure rfl) rfl rfl rfl ?_
  refine RunL.val (Val.load_agg rfl (.head _) ty_23 rfl) rfl rfl rfl ?_
  refine RunL.val (Val.pure rfl) rfl rfl rfl ?_
  refine RunL.val (Val.pure rfl) rfl rfl rfl ?_
  refine RunL.andPart (dj := 26) (dp := 29) 3 rfl (fun g26 => by
    have g26' := g26
    try simp only [decide_eq_true_eq, decide_eq_false_iff_not, Bool.not_eq_true', Bool.not_eq_false', Bool.and_eq_true, Bool.or_eq_true, Bool.and_eq_false_iff, Bool.or_eq_false_iff, Int.not_le, Int.not_lt] at g26'
    iterate 3 refine RunL.val (Val.pure rfl) rfl rfl rfl ?_
    exact RunL.segEnd (Sub.cons rfl (Sub.skip rfl (Sub.skip rfl (Sub.skip rfl (Sub.same rfl (by rw [g26]) (Sub.refl _)))))) (List.Sublist.refl _)
  ) (fun g26 => by
    have g26' := g26
    try simp only [decide_eq_true_eq, decide_eq_false_iff_not, Bool.not_eq_true', Bool.not_eq_false', Bool.and_eq_true, Bool.or_eq_true, Bool.and_eq_false_iff, Bool.or_eq_false_iff, Int.not_le, Int.not_lt] at g26'
    refine RunL.no rfl rfl rfl ?_
    refine RunL.no rfl rfl rfl ?_
    refine RunL.val (Val.pure rfl) rfl rfl rfl ?_
    exact RunL.segEnd (Sub.cons rfl (Sub.skip rfl (Sub.skip rfl (Sub.skip rfl (Sub.same rfl (by rw [g26]) (Sub.refl _)))))) (List.Sublist.refl _)
  ) ?_
  refine RunL.val (Val.indexAddr_arr rfl rfl arr_72 (by decide) (by decide)) rfl rfl rfl ?_
  refine RunL.sto (Sto.store rfl rfl (.there .here) ty_64 rfl rfl) rfl rfl ?_
  refine RunL.val (Val.pure rfl) rfl rfl rfl ?_
  refine RunL.nil ?_
  refine RunE.block_normal ?_
  refine RunE.next ?_
  refine RunC.region ?_
  refine RunL.val (Val.add rfl rfl (IntWalk.i64_in _ ⟨by decide, by decide⟩)) rfl rfl rfl ?_
  refine RunL.val (Val.pure rfl) rfl rfl rfl ?_
  refine RunL.nil ?_
  refine RunE.keep (Sub.cons (t := 0) rfl (Sub.cons (t := 1) rfl (Sub.cons (t := 4) rfl (Sub.cons (t := 5) rfl (Sub.cons (t := 10) rfl (Sub.cons (t := 11) rfl (Sub.nil _))))))) (.cons (.there .here) rfl .nil) ?_
  refine RunE.rounds ?_
  refine RunC.seq ?_
  refine RunC.region ?_
  refine RunL.val (Val.pure rfl) rfl rfl rfl ?_
  refine RunL.nil ?_
  refine RunE.next ?_
  refine RunC.seq ?_
  refine RunC.cond rfl (fun h => absurd h (by decide)) ?_
  intro c0
  clear c0
  refine RunC.exit ?_
  refine RunE.pass_exit ?_
  refine RunE.pass_exit ?_
  refine RunE.block_here ?_
  refine RunE.next ?_
  refine RunC.seq ?_
  refine RunC.region ?_
  refine RunL.val (Val.load_agg rfl (.head _) ty_72 rfl) rfl rfl rfl ?_
  refine RunL.val (Val.pure rfl) rfl rfl rfl ?_
  refine RunL.sto (Sto.store rfl rfl .here ty_72 rfl rfl) rfl rfl ?_
  refine RunL.val (Val.pure rfl) rfl rfl rfl ?_
  refine RunL.nil ?_
  refine RunE.next ?_
  refine RunC.ret ?_
  exact RunE.retP (.r2 rfl (.agg rfl (.head _) ty_72 rfl) (.tmp rfl)) (by simp [farG, seenG, z2v, z2c])
end Go.Proofs.Ytjijeeadmhpfcaa
/- Walks of package years: how high a thing stood. -/
set_option linter.unusedSimpArgs false
set_option linter.unusedVariables false
namespace Go.Proofs.Ytjijeeadmhpfcaa
open Go Go.Eng Go.Pw1

theorem sl_rowAt {w : World} {b o : Nat} {T : TypeId} {cs : List Value} {fr : Nat × Nat} (l : List Int) (h : w.heap[b]? = some (.cells cs.toArray T fr)) (hl : (cs.drop o).take l.length = l.map fun v => .int .i64 v) : Sl w (some ⟨b, o, none⟩) b o 1 (l.map fun v => [.int .i64 v]) :=
  ⟨fun _ => rfl, by simp, fun i hi j hj => by
    obtain rfl : j = 0 := by omega
    have hi' : i < l.length := by simpa using hi
    rw [cell_of_cells h]
    have h2 : ((cs.drop o).take l.length)[i]? = (l.map fun v => Value.int .i64 v)[i]? := by rw [hl]
    rw [List.getElem?_take_of_lt hi', List.getElem?_drop, List.getElem?_map, List.getElem?_eq_getElem hi'] at h2
    simpa using h2⟩
theorem yheights_calls (g : Gl) (a : Ga) (i : Nat) (t u : Th) (z : Z2) (b : Nat) (W : World) (hb : W.heap[b]? = some (.cells (g.cells a).toArray 110 (0, 0))) (hG : GIn W g a)
    (hi1 : i < g.f.things.length) (hi2 : i < g.s.things.length) (ht : g.f.things[i] = t) (hu : g.s.things[i] = u) (hpf : g.f.Ok) (hps : g.s.Ok)
    (hz : ∀ x y : Int, (-4000 ≤ x ∧ x ≤ 4000) → y ∈ [z.1.1, z.1.2, z.2.1, z.2.2] → -5000000000000 ≤ x * y ∧ x * y ≤ 5000000000000) :
    Calls Try.prog 43 #[.pointer (some ⟨b, 0, none⟩), .int .i64 (i : Int), z2v z] W (Pure (z2v (htP g.f t z.1, htP g.s u z.2)) W) := by
  have f1 := hpf.f1
  have f2 := hpf.f2
  have s1 := hps.f1
  have s2 := hps.f2
  have h1 := (hpf.ths _ (List.getElem_mem hi1)).1.2.1
  have h2 := (hps.ths _ (List.getElem_mem hi2)).1.2.1
  rw [ht] at h1
  rw [hu] at h2
  obtain ⟨h3, h4, h5⟩ := h1
  obtain ⟨h6, h7, h8⟩ := h2
  have e10 := hz t.ly.lo z.1.1 (by omega) (by simp)
  have e11 := hz t.ly.lo z.1.2 (by omega) (by simp)
  have e12 := hz t.ly.hi z.1.1 (by omega) (by simp)
  have e13 := hz t.ly.hi z.1.2 (by omega) (by simp)
  have e20 := hz u.ly.lo z.2.1 (by omega) (by simp)
  have e21 := hz u.ly.lo z.2.2 (by omega) (by simp)
  have e22 := hz u.ly.hi z.2.1 (by omega) (by simp)
  have e23 := hz u.ly.hi z.2.2 (by omega) (by simp)
  refine calls_start Try.func43 rfl rfl ?_
  refine RunC.seq ?_
  refine RunC.region ?_
  refine RunL.new (New.box rfl) rfl rfl rfl (fun b5 => ?_)
  refine RunL.new (New.alloc zero_72) rfl rfl rfl (fun b6 => ?_)
  refine RunL.nil ?_
  refine RunE.next ?_
  refine RunC.seq ?_
  refine RunC.seq ?_
  refine RunC.region ?_
  refine RunL.callP (isCall_func rfl ent_73) rfl rfl rfl (fun w hm => yviews_calls w) ?_
  refine RunL.val (Val.pure rfl) rfl rfl rfl ?_
  refine RunL.nil ?_
  refine RunE.next ?_
  refine RunC.block ?_
  refine RunC.unroll 2 ?_
  refine RunC.seq ?_
  refine RunC.region ?_
  refine RunL.val (Val.pure rfl) rfl rfl rfl ?_
  refine RunL.nil ?_
  refine RunE.next ?_
  refine RunC.seq ?_
  refine RunC.cond rfl ?_ (fun h => absurd h (by decide))
  intro c0
  clear c0
  refine RunC.skip ?_
  refine RunE.next ?_
  refine RunC.seq ?_
  refine RunC.block ?_
  refine RunC.seq ?_
  refine RunC.region ?_
  refine RunL.val (Val.pure rfl) rfl rfl rfl ?_
  refine RunL.val (Val.index1 rfl rfl arr1_113 (by decide) (by decide) rfl) rfl rfl rfl ?_
  refine RunL.val (Val.pure rfl) rfl rfl rfl ?_
  refine RunL.val (Val.pure rfl) rfl rfl rfl ?_
  refine RunL.nil ?_
  refine RunE.next ?_
  refine RunC.seq ?_
  refine RunC.region ?_
  refine RunL.val (Val.pure rfl) rfl rfl rfl ?_
  refine RunL.val (Val.pure rfl) rfl rfl rfl ?_
  refine RunL.callP (isCall_value rfl rfl ent_90) rfl rfl rfl (fun w hm => yfirst_calls g a _ w (hm.old_at hb (by simp))) ?_
  refine RunL.new (New.alloc zero_26) rfl rfl rfl (fun b9 => ?_)
  refine RunL.sto (Sto.store rfl rfl .here ty_26 rfl rfl) rfl rfl ?_
  refine RunL.nil ?_
  refine RunE.next ?_
  refine RunC.seq ?_
  refine RunC.region ?_
  refine RunL.val (Val.fieldAddr rfl fld_26_5) rfl rfl rfl ?_
  refine RunL.val (Val.load_one rfl (.head _) ty_24 rfl) rfl rfl rfl ?_
  refine RunL.val (Val.pure rfl) rfl rfl rfl ?_
  refine RunL.val (Val.indexAddr_slp rfl rfl sl_24 (by omega) (by omega) (hG.s1.ptrM hi1)) rfl rfl rfl ?_
  refine RunL.val (Val.fieldAddr rfl fld_54_0) rfl rfl rfl ?_
  refine RunL.val (Val.fieldAddr rfl fld_52_1) rfl rfl rfl ?_
  refine RunL.val (Val.load_gen rfl (fun w hm => hG.s1.loadPart hm (by simp) ty_23 hi1 ht (j := 2) (by decide) (vs := [.int .i64 t.ly.lo, .int .i64 t.ly.hi]) rfl (by decide) (by simp))) rfl rfl rfl ?_
  refine RunL.new (New.alloc zero_23) rfl rfl rfl (fun b10 => ?_)
  refine RunL.sto (Sto.store rfl rfl .here ty_23 rfl rfl) rfl rfl ?_
  refine RunL.nil ?_
  refine RunE.next ?_
  refine RunC.seq ?_
  refine RunC.region ?_
  refine RunL.val (Val.pure rfl) rfl rfl rfl ?_
  refine RunL.nil ?_
  refine RunE.next ?_
  refine RunC.seq ?_
  refine RunC.seq ?_
  refine RunC.region ?_
  refine RunL.val (Val.fieldAddr rfl fld_23_0) rfl rfl rfl ?_
  refine RunL.val (Val.load_one rfl (.head _) ty_3 rfl) rfl rfl rfl ?_
  refine RunL.val (Val.fieldAddr rfl fld_23_1) rfl rfl rfl ?_
  refine RunL.val (Val.load_one rfl (.head _) ty_3 rfl) rfl rfl rfl ?_
  refine RunL.new (New.buildSlice (parts := [(0, .tmp 34), (1, .tmp 36)]) rfl sl_119 zero_3 rfl rfl rfl rfl) rfl rfl rfl (fun b37 => ?_)
  refine RunL.val (Val.len_sl rfl sl_119) rfl rfl rfl ?_
  refine RunL.val (Val.pure rfl) rfl rfl rfl ?_
  refine RunL.nil ?_
  refine RunE.next ?_
  refine RunC.block ?_
  refine RunC.unroll 2 ?_
  refine RunC.seq ?_
  refine RunC.region ?_
  refine RunL.val (Val.pure rfl) rfl rfl rfl ?_
  refine RunL.nil ?_
  refine RunE.next ?_
  refine RunC.seq ?_
  refine RunC.cond rfl ?_ (fun h => absurd h (by decide))
  intro c1
  clear c1
  refine RunC.skip ?_
  refine RunE.next ?_
  refine RunC.seq ?_
  refine RunC.block ?_
  refine RunC.seq ?_
  refine RunC.region ?_
  refine RunL.val (Val.indexAddr_sl rfl rfl sl_119 (by omega) (by omega)) rfl rfl rfl ?_
  refine RunL.val (Val.load_one rfl (.head _) ty_3 rfl) rfl rfl rfl ?_
  refine RunL.val (Val.pure rfl) rfl rfl rfl ?_
  refine RunL.nil ?_
  refine RunE.next ?_
  refine RunC.seq ?_
  refine RunC.draw 11 fol_ (.cons .here rfl (.cons .here rfl (.cons .here rfl (.cons .here rfl (.cons .here rfl .nil))))) ?_
  refine RunA.val (i := 0) rfl (by kernel_rfl) (by kernel_rfl) (Val.pure rfl) rfl rfl rfl (fun _ _ _ h => h) (.cons .here rfl (.cons .here rfl (.cons .here rfl (.cons .here rfl (.cons .here rfl .nil))))) rfl ?_
  refine RunA.val (i := 1) rfl (by kernel_rfl) (by kernel_rfl) (Val.indexAddr_arr rfl rfl arr_72 (by decide) (by decide)) rfl rfl rfl (fun _ _ _ h => h) (.cons .here rfl (.cons .here rfl (.cons .here rfl (.cons .here rfl (.cons .here rfl .nil))))) rfl ?_
  refine RunA.val (i := 2) rfl (by kernel_rfl) (by kernel_rfl) (Val.fieldAddr rfl fld_64_0) rfl rfl rfl (fun _ _ _ h => h) (.cons .here rfl (.cons .here rfl (.cons .here rfl (.cons .here rfl (.cons .here rfl .nil))))) rfl ?_
  refine RunA.val (i := 3) rfl (by kernel_rfl) (by kernel_rfl) (Val.load_one rfl (.tail _ (.tail _ (.tail _ (.tail _ (.head _))))) ty_3 rfl) rfl rfl rfl (fun _ _ _ h => h) (.cons .here rfl (.cons .here rfl (.cons .here rfl (.cons .here rfl (.cons .here rfl .nil))))) rfl ?_
  refine RunA.val (i := 4) rfl (by kernel_rfl) (by kernel_rfl) (Val.pure rfl) rfl rfl rfl (fun _ _ _ h => h) (.cons .here rfl (.cons .here rfl (.cons .here rfl (.cons .here rfl (.cons .here rfl .nil))))) rfl ?_
  refine RunA.val (i := 5) rfl (by kernel_rfl) (by kernel_rfl) (Val.indexAddr_arr rfl rfl arr_72 (by decide) (by decide)) rfl rfl rfl (fun _ _ _ h => h) (.cons .here rfl (.cons .here rfl (.cons .here rfl (.cons .here rfl (.cons .here rfl .nil))))) rfl ?_
  refine RunA.val (i := 6) rfl (by kernel_rfl) (by kernel_rfl) (Val.fieldAddr rfl fld_64_1) rfl rfl rfl (fun _ _ _ h => h) (.cons .here rfl (.cons .here rfl (.cons .here rfl (.cons .here rfl (.cons .here rfl .nil))))) rfl ?_
  refine RunA.val (i := 7) rfl (by kernel_rfl) (by kernel_rfl) (Val.load_one rfl (.tail _ (.tail _ (.tail _ (.tail _ (.head _))))) ty_3 rfl) rfl rfl rfl (fun _ _ _ h => h) (.cons .here rfl (.cons .here rfl (.cons .here rfl (.cons .here rfl (.cons .here rfl .nil))))) rfl ?_
  refine RunA.val (i := 10) rfl (by kernel_rfl) (by kernel_rfl) (Val.pure rfl) rfl rfl rfl (fun _ _ _ h => h) (.cons .here rfl (.cons .here rfl (.cons .here rfl (.cons .here rfl (.cons .here rfl .nil))))) rfl ?_
  refine RunA.one (i := 8) (by kernel_rfl) (by kernel_rfl) ?_
  refine RunI.new rfl (New.buildSlice (parts := [(0, .tmp 46), (1, .tmp 50)]) rfl sl_119 zero_3 rfl rfl rfl rfl) rfl rfl rfl (fun b51 => (RunK.toA (.cons .here rfl (.cons .here rfl (.cons .here rfl (.cons .here rfl (.cons .here rfl (.cons .here rfl .nil)))))) (.cons (.there .here) rfl (.cons (.there .here) rfl (.cons (.there .here) rfl (.cons (.there .here) rfl (.cons (.there .here) rfl .nil))))) rfl ?_))
  refine RunA.val (i := 9) rfl (by kernel_rfl) (by kernel_rfl) (Val.len_sl rfl sl_119) rfl rfl rfl (fun _ _ _ h => h) (.cons .here rfl (.cons .here rfl (.cons .here rfl (.cons .here rfl (.cons .here rfl (.cons .here rfl .nil)))))) rfl ?_
  refine RunA.done (by kernel_rfl) ?_
  refine RunE.next ?_
  refine RunC.block ?_
  refine RunC.unroll 2 ?_
  refine RunC.seq ?_
  refine RunC.region ?_
  refine RunL.val (Val.pure rfl) rfl rfl rfl ?_
  refine RunL.nil ?_
  refine RunE.next ?_
  refine RunC.seq ?_
  refine RunC.cond rfl ?_ (fun h => absurd h (by decide))
  intro c2
  clear c2
  refine RunC.skip ?_
  refine RunE.next ?_
  refine RunC.seq ?_
  refine RunC.block ?_
  refine RunC.seq ?_
  refine RunC.region ?_
  refine RunL.val (Val.indexAddr_sl rfl rfl sl_119 (by omega) (by omega)) rfl rfl rfl ?_
  refine RunL.val (Val.load_one rfl (.head _) ty_3 rfl) rfl rfl rfl ?_
  refine RunL.val (Val.pure rfl) rfl rfl rfl ?_
  refine RunL.nil ?_
  refine RunE.next ?_
  refine RunC.seq ?_
  refine RunC.region ?_
  refine RunL.val (Val.fieldAddr rfl fld_26_0) rfl rfl rfl ?_
  refine RunL.val (Val.fieldAddr rfl fld_23_0) rfl rfl rfl ?_
  refine RunL.val (Val.load_one rfl (.tail _ (.tail _ (.tail _ (.head _)))) ty_3 rfl) rfl rfl rfl ?_
  refine RunL.val (Val.fieldAddr rfl fld_26_0) rfl rfl rfl ?_
  refine RunL.val (Val.fieldAddr rfl fld_23_1) rfl rfl rfl ?_
  refine RunL.val (Val.load_one rfl (.tail _ (.tail _ (.tail _ (.head _)))) ty_3 rfl) rfl rfl rfl ?_
  refine RunL.new (New.buildSlice (parts := [(0, .tmp 59), (1, .tmp 62)]) rfl sl_119 zero_3 rfl rfl rfl rfl) rfl rfl rfl (fun b63 => ?_)
  refine RunL.val (Val.len_sl rfl sl_119) rfl rfl rfl ?_
  refine RunL.val (Val.pure rfl) rfl rfl rfl ?_
  refine RunL.nil ?_
  refine RunE.next ?_
  refine RunC.block ?_
  refine RunC.unroll 2 ?_
  refine RunC.seq ?_
  refine RunC.region ?_
  refine RunL.val (Val.pure rfl) rfl rfl rfl ?_
  refine RunL.nil ?_
  refine RunE.next ?_
  refine RunC.seq ?_
  refine RunC.cond rfl ?_ (fun h => absurd h (by decide))
  intro c3
  clear c3
  refine RunC.skip ?_
  refine RunE.next ?_
  refine RunC.seq ?_
  refine RunC.block ?_
  refine RunC.seq ?_
  refine RunC.region ?_
  refine RunL.val (Val.indexAddr_sl rfl rfl sl_119 (by omega) (by omega)) rfl rfl rfl ?_
  refine RunL.val (Val.load_one rfl (.head _) ty_3 rfl) rfl rfl rfl ?_
  refine RunL.val (Val.pure rfl) rfl rfl rfl ?_
  refine RunL.nil ?_
  refine RunE.next ?_
  refine RunC.region ?_
  iterate 3 refine RunL.val (Val.pure rfl) rfl rfl rfl ?_
  refine RunL.val (Val.mul rfl rfl (IntWalk.i64_in _ ⟨by omega, by omega⟩)) rfl rfl rfl ?_
  refine RunL.val (Val.pure rfl) rfl rfl rfl ?_
  refine RunL.callP (isCall_func rfl ent_47) rfl rfl rfl (fun w hm => ydown_calls _ _ (by omega) (by omega) w) ?_
  refine RunL.new (New.buildSlice (parts := [(0, .tmp 74)]) rfl sl_119 zero_3 rfl rfl rfl rfl) rfl rfl rfl (fun b75 => ?_)
  refine RunL.append (A := [(b75, _), (b63, _), (b51, _), (b37, _), (b10, _), (b9, _), (b6, _), (b5, _)]) (B := _) (x := none) (ys := _) ap_119 rfl rfl rfl OwnOk.start rfl (fun h => by cases h) (fun w hm => src_blk (hm.at (.head _))) (one_of rfl) (by simp only [maxLen]; omega) (by omega) rfl (fun z76 hz76 => ?_)
  refine RunL.val (Val.pure rfl) rfl rfl rfl ?_
  refine RunL.nil ?_
  refine RunE.block_normal ?_
  refine RunE.next ?_
  refine RunC.region ?_
  refine RunL.val (Val.add rfl rfl (IntWalk.i64_in _ ⟨by decide, by decide⟩)) rfl rfl rfl ?_
  refine RunL.val (Val.pure rfl) rfl rfl rfl ?_
  refine RunL.nil ?_
  refine RunE.keep (Sub.cons (t := 0) rfl (Sub.cons (t := 1) rfl (Sub.cons (t := 5) rfl (Sub.cons (t := 6) rfl (Sub.cons (t := 7) rfl (Sub.cons (t := 9) rfl (Sub.cons (t := 10) rfl (Sub.cons (t := 11) rfl (Sub.cons (t := 13) rfl (Sub.cons (t := 15) rfl (Sub.cons (t := 18) rfl (Sub.cons (t := 19) rfl (Sub.cons (t := 37) rfl (Sub.cons (t := 38) rfl (Sub.cons (t := 39) rfl (Sub.cons (t := 51) rfl (Sub.cons (t := 52) rfl (Sub.cons (t := 53) rfl (Sub.cons (t := 63) rfl (Sub.cons (t := 64) rfl (Sub.cons (t := 65) rfl (Sub.nil _)))))))))))))))))))))) (.cons (.there .here) rfl (.cons (.there .here) rfl (.cons (.there (.there .here)) rfl (.cons (.there (.there .here)) rfl (.cons (.there .here) rfl (.cons (.there (.there .here)) rfl (.cons (.there .here) rfl (Pick.skip (Pick.refl _))))))))) ?_
  refine RunE.rounds ?_
  refine RunC.seq ?_
  refine RunC.region ?_
  refine RunL.val (Val.pure rfl) rfl rfl rfl ?_
  refine RunL.nil ?_
  refine RunE.next ?_
  refine RunC.seq ?_
  refine RunC.cond rfl ?_ (fun h => absurd h (by decide))
  intro c3
  clear c3
  refine RunC.skip ?_
  refine RunE.next ?_
  refine RunC.seq ?_
  refine RunC.block ?_
  refine RunC.seq ?_
  refine RunC.region ?_
  refine RunL.val (Val.indexAddr_sl rfl rfl sl_119 (by omega) (by omega)) rfl rfl rfl ?_
  refine RunL.val (Val.load_one rfl (.head _) ty_3 rfl) rfl rfl rfl ?_
  refine RunL.val (Val.pure rfl) rfl rfl rfl ?_
  refine RunL.nil ?_
  refine RunE.next ?_
  refine RunC.region ?_
  iterate 3 refine RunL.val (Val.pure rfl) rfl rfl rfl ?_
  refine RunL.val (Val.mul rfl rfl (IntWalk.i64_in _ ⟨by omega, by omega⟩)) rfl rfl rfl ?_
  refine RunL.val (Val.pure rfl) rfl rfl rfl ?_
  refine RunL.callP (isCall_func rfl ent_47) rfl rfl rfl (fun w hm => ydown_calls _ _ (by omega) (by omega) w) ?_
  refine RunL.new (New.buildSlice (parts := [(0, .tmp 74)]) rfl sl_119 zero_3 rfl rfl rfl rfl) rfl rfl rfl (fun b75 => ?_)
  refine RunL.append (A := [(b75, _), (b63, _), (b51, _), (b10, _), (b9, _), (b37, _), (b5, _), (b6, _)]) (B := _) (x := z76) (ys := _) ap_119 rfl rfl rfl hz76 rfl (fun h => by cases h) (fun w hm => src_blk (hm.at (.head _))) (one_of rfl) (by simp only [maxLen]; omega) (by omega) rfl (fun z76 hz76 => ?_)
  refine RunL.val (Val.pure rfl) rfl rfl rfl ?_
  refine RunL.nil ?_
  refine RunE.block_normal ?_
  refine RunE.next ?_
  refine RunC.region ?_
  refine RunL.val (Val.add rfl rfl (IntWalk.i64_in _ ⟨by decide, by decide⟩)) rfl rfl rfl ?_
  refine RunL.val (Val.pure rfl) rfl rfl rfl ?_
  refine RunL.nil ?_
  refine RunE.keep (Sub.cons (t := 0) rfl (Sub.cons (t := 1) rfl (Sub.cons (t := 5) rfl (Sub.cons (t := 6) rfl (Sub.cons (t := 7) rfl (Sub.cons (t := 9) rfl (Sub.cons (t := 10) rfl (Sub.cons (t := 11) rfl (Sub.cons (t := 13) rfl (Sub.cons (t := 15) rfl (Sub.cons (t := 18) rfl (Sub.cons (t := 19) rfl (Sub.cons (t := 37) rfl (Sub.cons (t := 38) rfl (Sub.cons (t := 39) rfl (Sub.cons (t := 51) rfl (Sub.cons (t := 52) rfl (Sub.cons (t := 53) rfl (Sub.cons (t := 63) rfl (Sub.cons (t := 64) rfl (Sub.cons (t := 65) rfl (Sub.nil _)))))))))))))))))))))) (.cons (.there .here) rfl (.cons (.there .here) rfl (.cons (.there .here) rfl (.cons (.there .here) rfl (.cons (.there .here) rfl (.cons (.there .here) rfl (.cons (.there .here) rfl (Pick.skip (Pick.refl _))))))))) ?_
  refine RunE.rounds ?_
  refine RunC.seq ?_
  refine RunC.region ?_
  refine RunL.val (Val.pure rfl) rfl rfl rfl ?_
  refine RunL.nil ?_
  refine RunE.next ?_
  refine RunC.seq ?_
  refine RunC.cond rfl (fun h => absurd h (by decide)) ?_
  intro c3
  clear c3
  refine RunC.exit ?_
  refine RunE.pass_exit ?_
  refine RunE.pass_exit ?_
  refine RunE.block_here ?_
  refine RunE.block_normal ?_
  refine RunE.next ?_
  refine RunC.region ?_
  refine RunL.val (Val.add rfl rfl (IntWalk.i64_in _ ⟨by decide, by decide⟩)) rfl rfl rfl ?_
  refine RunL.val (Val.pure rfl) rfl rfl rfl ?_
  refine RunL.nil ?_
  refine RunE.keep (Sub.cons (t := 0) rfl (Sub.cons (t := 1) rfl (Sub.cons (t := 5) rfl (Sub.cons (t := 6) rfl (Sub.cons (t := 7) rfl (Sub.cons (t := 9) rfl (Sub.cons (t := 10) rfl (Sub.cons (t := 11) rfl (Sub.cons (t := 13) rfl (Sub.cons (t := 18) rfl (Sub.cons (t := 19) rfl (Sub.cons (t := 37) rfl (Sub.cons (t := 38) rfl (Sub.cons (t := 39) rfl (Sub.cons (t := 51) rfl (Sub.cons (t := 52) rfl (Sub.cons (t := 53) rfl (Sub.nil _)))))))))))))))))) (.cons (.there .here) rfl (.cons (.there .here) rfl (.cons (.there .here) rfl (.cons (.there .here) rfl (.cons (.there .here) rfl (.cons (.there .here) rfl (Pick.skip (Pick.refl _)))))))) ?_
  refine RunE.rounds ?_
  refine RunC.seq ?_
  refine RunC.region ?_
  refine RunL.val (Val.pure rfl) rfl rfl rfl ?_
  refine RunL.nil ?_
  refine RunE.next ?_
  refine RunC.seq ?_
  refine RunC.cond rfl ?_ (fun h => absurd h (by decide))
  intro c2
  clear c2
  refine RunC.skip ?_
  refine RunE.next ?_
  refine RunC.seq ?_
  refine RunC.block ?_
  refine RunC.seq ?_
  refine RunC.region ?_
  refine RunL.val (Val.indexAddr_sl rfl rfl sl_119 (by omega) (by omega)) rfl rfl rfl ?_
  refine RunL.val (Val.load_one rfl (.head _) ty_3 rfl) rfl rfl rfl ?_
  refine RunL.val (Val.pure rfl) rfl rfl rfl ?_
  refine RunL.nil ?_
  refine RunE.next ?_
  refine RunC.seq ?_
  refine RunC.region ?_
  refine RunL.val (Val.fieldAddr rfl fld_26_0) rfl rfl rfl ?_
  refine RunL.val (Val.fieldAddr rfl fld_23_0) rfl rfl rfl ?_
  refine RunL.val (Val.load_one rfl (.tail _ (.tail _ (.head _))) ty_3 rfl) rfl rfl rfl ?_
  refine RunL.val (Val.fieldAddr rfl fld_26_0) rfl rfl rfl ?_
  refine RunL.val (Val.fieldAddr rfl fld_23_1) rfl rfl rfl ?_
  refine RunL.val (Val.load_one rfl (.tail _ (.tail _ (.head _))) ty_3 rfl) rfl rfl rfl ?_
  refine RunL.new (New.buildSlice (parts := [(0, .tmp 59), (1, .tmp 62)]) rfl sl_119 zero_3 rfl rfl rfl rfl) rfl rfl rfl (fun b63 => ?_)
  refine RunL.val (Val.len_sl rfl sl_119) rfl rfl rfl ?_
  refine RunL.val (Val.pure rfl) rfl rfl rfl ?_
  refine RunL.nil ?_
  refine RunE.next ?_
  refine RunC.block ?_
  refine RunC.unroll 2 ?_
  refine RunC.seq ?_
  refine RunC.region ?_
  refine RunL.val (Val.pure rfl) rfl rfl rfl ?_
  refine RunL.nil ?_
  refine RunE.next ?_
  refine RunC.seq ?_
  refine RunC.cond rfl ?_ (fun h => absurd h (by decide))
  intro c3
  clear c3
  refine RunC.skip ?_
  refine RunE.next ?_
  refine RunC.seq ?_
  refine RunC.block ?_
  refine RunC.seq ?_
  refine RunC.region ?_
  refine RunL.val (Val.indexAddr_sl rfl rfl sl_119 (by omega) (by omega)) rfl rfl rfl ?_
  refine RunL.val (Val.load_one rfl (.head _) ty_3 rfl) rfl rfl rfl ?_
  refine RunL.val (Val.pure rfl) rfl rfl rfl ?_
  refine RunL.nil ?_
  refine RunE.next ?_
  refine RunC.region ?_
  iterate 3 refine RunL.val (Val.pure rfl) rfl rfl rfl ?_
  refine RunL.val (Val.mul rfl rfl (IntWalk.i64_in _ ⟨by omega, by omega⟩)) rfl rfl rfl ?_
  refine RunL.val (Val.pure rfl) rfl rfl rfl ?_
  refine RunL.callP (isCall_func rfl ent_47) rfl rfl rfl (fun w hm => ydown_calls _ _ (by omega) (by omega) w) ?_
  refine RunL.new (New.buildSlice (parts := [(0, .tmp 74)]) rfl sl_119 zero_3 rfl rfl rfl rfl) rfl rfl rfl (fun b75 => ?_)
  refine RunL.append (A := [(b75, _), (b63, _), (b51, _), (b10, _), (b9, _), (b37, _), (b5, _), (b6, _)]) (B := _) (x := z76) (ys := _) ap_119 rfl rfl rfl hz76 rfl (fun h => by cases h) (fun w hm => src_blk (hm.at (.head _))) (one_of rfl) (by simp only [maxLen]; omega) (by omega) rfl (fun z76 hz76 => ?_)
  refine RunL.val (Val.pure rfl) rfl rfl rfl ?_
  refine RunL.nil ?_
  refine RunE.block_normal ?_
  refine RunE.next ?_
  refine RunC.region ?_
  refine RunL.val (Val.add rfl rfl (IntWalk.i64_in _ ⟨by decide, by decide⟩)) rfl rfl rfl ?_
  refine RunL.val (Val.pure rfl) rfl rfl rfl ?_
  refine RunL.nil ?_
  refine RunE.keep (Sub.cons (t := 0) rfl (Sub.cons (t := 1) rfl (Sub.cons (t := 5) rfl (Sub.cons (t := 6) rfl (Sub.cons (t := 7) rfl (Sub.cons (t := 9) rfl (Sub.cons (t := 10) rfl (Sub.cons (t := 11) rfl (Sub.cons (t := 13) rfl (Sub.cons (t := 15) rfl (Sub.cons (t := 18) rfl (Sub.cons (t := 19) rfl (Sub.cons (t := 37) rfl (Sub.cons (t := 38) rfl (Sub.cons (t := 39) rfl (Sub.cons (t := 51) rfl (Sub.cons (t := 52) rfl (Sub.cons (t := 53) rfl (Sub.cons (t := 63) rfl (Sub.cons (t := 64) rfl (Sub.cons (t := 65) rfl (Sub.nil _)))))))))))))))))))))) (.cons (.there .here) rfl (.cons (.there .here) rfl (.cons (.there .here) rfl (.cons (.there .here) rfl (.cons (.there .here) rfl (.cons (.there .here) rfl (.cons (.there .here) rfl (Pick.skip (Pick.refl _))))))))) ?_
  refine RunE.rounds ?_
  refine RunC.seq ?_
  refine RunC.region ?_
  refine RunL.val (Val.pure rfl) rfl rfl rfl ?_
  refine RunL.nil ?_
  refine RunE.next ?_
  refine RunC.seq ?_
  refine RunC.cond rfl ?_ (fun h => absurd h (by decide))
  intro c3
  clear c3
  refine RunC.skip ?_
  refine RunE.next ?_
  refine RunC.seq ?_
  refine RunC.block ?_
  refine RunC.seq ?_
  refine RunC.region ?_
  refine RunL.val (Val.indexAddr_sl rfl rfl sl_119 (by omega) (by omega)) rfl rfl rfl ?_
  refine RunL.val (Val.load_one rfl (.head _) ty_3 rfl) rfl rfl rfl ?_
  refine RunL.val (Val.pure rfl) rfl rfl rfl ?_
  refine RunL.nil ?_
  refine RunE.next ?_
  refine RunC.region ?_
  iterate 3 refine RunL.val (Val.pure rfl) rfl rfl rfl ?_
  refine RunL.val (Val.mul rfl rfl (IntWalk.i64_in _ ⟨by omega, by omega⟩)) rfl rfl rfl ?_
  refine RunL.val (Val.pure rfl) rfl rfl rfl ?_
  refine RunL.callP (isCall_func rfl ent_47) rfl rfl rfl (fun w hm => ydown_calls _ _ (by omega) (by omega) w) ?_
  refine RunL.new (New.buildSlice (parts := [(0, .tmp 74)]) rfl sl_119 zero_3 rfl rfl rfl rfl) rfl rfl rfl (fun b75 => ?_)
  refine RunL.append (A := [(b75, _), (b63, _), (b51, _), (b10, _), (b9, _), (b37, _), (b5, _), (b6, _)]) (B := _) (x := z76) (ys := _) ap_119 rfl rfl rfl hz76 rfl (fun h => by cases h) (fun w hm => src_blk (hm.at (.head _))) (one_of rfl) (by simp only [maxLen]; omega) (by omega) rfl (fun z76 hz76 => ?_)
  refine RunL.val (Val.pure rfl) rfl rfl rfl ?_
  refine RunL.nil ?_
  refine RunE.block_normal ?_
  refine RunE.next ?_
  refine RunC.region ?_
  refine RunL.val (Val.add rfl rfl (IntWalk.i64_in _ ⟨by decide, by decide⟩)) rfl rfl rfl ?_
  refine RunL.val (Val.pure rfl) rfl rfl rfl ?_
  refine RunL.nil ?_
  refine RunE.keep (Sub.cons (t := 0) rfl (Sub.cons (t := 1) rfl (Sub.cons (t := 5) rfl (Sub.cons (t := 6) rfl (Sub.cons (t := 7) rfl (Sub.cons (t := 9) rfl (Sub.cons (t := 10) rfl (Sub.cons (t := 11) rfl (Sub.cons (t := 13) rfl (Sub.cons (t := 15) rfl (Sub.cons (t := 18) rfl (Sub.cons (t := 19) rfl (Sub.cons (t := 37) rfl (Sub.cons (t := 38) rfl (Sub.cons (t := 39) rfl (Sub.cons (t := 51) rfl (Sub.cons (t := 52) rfl (Sub.cons (t := 53) rfl (Sub.cons (t := 63) rfl (Sub.cons (t := 64) rfl (Sub.cons (t := 65) rfl (Sub.nil _)))))))))))))))))))))) (.cons (.there .here) rfl (.cons (.there .here) rfl (.cons (.there .here) rfl (.cons (.there .here) rfl (.cons (.there .here) rfl (.cons (.there .here) rfl (.cons (.there .here) rfl (Pick.skip (Pick.refl _))))))))) ?_
  refine RunE.rounds ?_
  refine RunC.seq ?_
  refine RunC.region ?_
  refine RunL.val (Val.pure rfl) rfl rfl rfl ?_
  refine RunL.nil ?_
  refine RunE.next ?_
  refine RunC.seq ?_
  refine RunC.cond rfl (fun h => absurd h (by decide)) ?_
  intro c3
  clear c3
  refine RunC.exit ?_
  refine RunE.pass_exit ?_
  refine RunE.pass_exit ?_
  refine RunE.block_here ?_
  refine RunE.block_normal ?_
  refine RunE.next ?_
  refine RunC.region ?_
  refine RunL.val (Val.add rfl rfl (IntWalk.i64_in _ ⟨by decide, by decide⟩)) rfl rfl rfl ?_
  refine RunL.val (Val.pure rfl) rfl rfl rfl ?_
  refine RunL.nil ?_
  refine RunE.keep (Sub.cons (t := 0) rfl (Sub.cons (t := 1) rfl (Sub.cons (t := 5) rfl (Sub.cons (t := 6) rfl (Sub.cons (t := 7) rfl (Sub.cons (t := 9) rfl (Sub.cons (t := 10) rfl (Sub.cons (t := 11) rfl (Sub.cons (t := 13) rfl (Sub.cons (t := 18) rfl (Sub.cons (t := 19) rfl (Sub.cons (t := 37) rfl (Sub.cons (t := 38) rfl (Sub.cons (t := 39) rfl (Sub.cons (t := 51) rfl (Sub.cons (t := 52) rfl (Sub.cons (t := 53) rfl (Sub.nil _)))))))))))))))))) (.cons (.there .here) rfl (.cons (.there .here) rfl (.cons (.there .here) rfl (.cons (.there .here) rfl (.cons (.there .here) rfl (.cons (.there .here) rfl (Pick.skip (Pick.refl _)))))))) ?_
  refine RunE.rounds ?_
  refine RunC.seq ?_
  refine RunC.region ?_
  refine RunL.val (Val.pure rfl) rfl rfl rfl ?_
  refine RunL.nil ?_
  refine RunE.next ?_
  refine RunC.seq ?_
  refine RunC.cond rfl (fun h => absurd h (by decide)) ?_
  intro c2
  clear c2
  refine RunC.exit ?_
  refine RunE.pass_exit ?_
  refine RunE.pass_exit ?_
  refine RunE.block_here ?_
  refine RunE.block_normal ?_
  refine RunE.next ?_
  refine RunC.region ?_
  refine RunL.val (Val.add rfl rfl (IntWalk.i64_in _ ⟨by decide, by decide⟩)) rfl rfl rfl ?_
  refine RunL.val (Val.pure rfl) rfl rfl rfl ?_
  refine RunL.nil ?_
  refine RunE.keep (Sub.cons (t := 0) rfl (Sub.cons (t := 1) rfl (Sub.cons (t := 5) rfl (Sub.cons (t := 6) rfl (Sub.cons (t := 7) rfl (Sub.cons (t := 9) rfl (Sub.cons (t := 10) rfl (Sub.cons (t := 11) rfl (Sub.cons (t := 18) rfl (Sub.cons (t := 19) rfl (Sub.cons (t := 37) rfl (Sub.cons (t := 38) rfl (Sub.cons (t := 39) rfl (Sub.nil _)))))))))))))) (.cons (.there .here) rfl (.cons (.there .here) rfl (.cons (.there .here) rfl (.cons (.there .here) rfl (.cons (.there .here) rfl (Pick.skip (Pick.refl _))))))) ?_
  refine RunE.rounds ?_
  refine RunC.seq ?_
  refine RunC.region ?_
  refine RunL.val (Val.pure rfl) rfl rfl rfl ?_
  refine RunL.nil ?_
  refine RunE.next ?_
  refine RunC.seq ?_
  refine RunC.cond rfl ?_ (fun h => absurd h (by decide))
  intro c1
  clear c1
  refine RunC.skip ?_
  refine RunE.next ?_
  refine RunC.seq ?_
  refine RunC.block ?_
  refine RunC.seq ?_
  refine RunC.region ?_
  refine RunL.val (Val.indexAddr_sl rfl rfl sl_119 (by omega) (by omega)) rfl rfl rfl ?_
  refine RunL.val (Val.load_one rfl (.tail _ (.tail _ (.head _))) ty_3 rfl) rfl rfl rfl ?_
  refine RunL.val (Val.pure rfl) rfl rfl rfl ?_
  refine RunL.nil ?_
  refine RunE.next ?_
  refine RunC.seq ?_
  refine RunC.draw 11 fol_ (.cons .here rfl (.cons .here rfl (.cons .here rfl (.cons .here rfl (.cons .here rfl .nil))))) ?_
  refine RunA.val (i := 0) rfl (by kernel_rfl) (by kernel_rfl) (Val.pure rfl) rfl rfl rfl (fun _ _ _ h => h) (.cons .here rfl (.cons .here rfl (.cons .here rfl (.cons .here rfl (.cons .here rfl .nil))))) rfl ?_
  refine RunA.val (i := 1) rfl (by kernel_rfl) (by kernel_rfl) (Val.indexAddr_arr rfl rfl arr_72 (by decide) (by decide)) rfl rfl rfl (fun _ _ _ h => h) (.cons .here rfl (.cons .here rfl (.cons .here rfl (.cons .here rfl (.cons .here rfl .nil))))) rfl ?_
  refine RunA.val (i := 2) rfl (by kernel_rfl) (by kernel_rfl) (Val.fieldAddr rfl fld_64_0) rfl rfl rfl (fun _ _ _ h => h) (.cons .here rfl (.cons .here rfl (.cons .here rfl (.cons .here rfl (.cons .here rfl .nil))))) rfl ?_
  refine RunA.val (i := 3) rfl (by kernel_rfl) (by kernel_rfl) (Val.load_one rfl (.tail _ (.tail _ (.tail _ (.head _)))) ty_3 rfl) rfl rfl rfl (fun _ _ _ h => h) (.cons .here rfl (.cons .here rfl (.cons .here rfl (.cons .here rfl (.cons .here rfl .nil))))) rfl ?_
  refine RunA.val (i := 4) rfl (by kernel_rfl) (by kernel_rfl) (Val.pure rfl) rfl rfl rfl (fun _ _ _ h => h) (.cons .here rfl (.cons .here rfl (.cons .here rfl (.cons .here rfl (.cons .here rfl .nil))))) rfl ?_
  refine RunA.val (i := 5) rfl (by kernel_rfl) (by kernel_rfl) (Val.indexAddr_arr rfl rfl arr_72 (by decide) (by decide)) rfl rfl rfl (fun _ _ _ h => h) (.cons .here rfl (.cons .here rfl (.cons .here rfl (.cons .here rfl (.cons .here rfl .nil))))) rfl ?_
  refine RunA.val (i := 6) rfl (by kernel_rfl) (by kernel_rfl) (Val.fieldAddr rfl fld_64_1) rfl rfl rfl (fun _ _ _ h => h) (.cons .here rfl (.cons .here rfl (.cons .here rfl (.cons .here rfl (.cons .here rfl .nil))))) rfl ?_
  refine RunA.val (i := 7) rfl (by kernel_rfl) (by kernel_rfl) (Val.load_one rfl (.tail _ (.tail _ (.tail _ (.head _)))) ty_3 rfl) rfl rfl rfl (fun _ _ _ h => h) (.cons .here rfl (.cons .here rfl (.cons .here rfl (.cons .here rfl (.cons .here rfl .nil))))) rfl ?_
  refine RunA.val (i := 10) rfl (by kernel_rfl) (by kernel_rfl) (Val.pure rfl) rfl rfl rfl (fun _ _ _ h => h) (.cons .here rfl (.cons .here rfl (.cons .here rfl (.cons .here rfl (.cons .here rfl .nil))))) rfl ?_
  refine RunA.one (i := 8) (by kernel_rfl) (by kernel_rfl) ?_
  refine RunI.new rfl (New.buildSlice (parts := [(0, .tmp 46), (1, .tmp 50)]) rfl sl_119 zero_3 rfl rfl rfl rfl) rfl rfl rfl (fun b51 => (RunK.toA (.cons .here rfl (.cons .here rfl (.cons .here rfl (.cons .here rfl (.cons .here rfl (.cons .here rfl .nil)))))) (.cons (.there .here) rfl (.cons (.there .here) rfl (.cons (.there .here) rfl (.cons (.there .here) rfl (.cons (.there .here) rfl .nil))))) rfl ?_))
  refine RunA.val (i := 9) rfl (by kernel_rfl) (by kernel_rfl) (Val.len_sl rfl sl_119) rfl rfl rfl (fun _ _ _ h => h) (.cons .here rfl (.cons .here rfl (.cons .here rfl (.cons .here rfl (.cons .here rfl (.cons .here rfl .nil)))))) rfl ?_
  refine RunA.done (by kernel_rfl) ?_
  refine RunE.next ?_
  refine RunC.block ?_
  refine RunC.unroll 2 ?_
  refine RunC.seq ?_
  refine RunC.region ?_
  refine RunL.val (Val.pure rfl) rfl rfl rfl ?_
  refine RunL.nil ?_
  refine RunE.next ?_
  refine RunC.seq ?_
  refine RunC.cond rfl ?_ (fun h => absurd h (by decide))
  intro c2
  clear c2
  refine RunC.skip ?_
  refine RunE.next ?_
  refine RunC.seq ?_
  refine RunC.block ?_
  refine RunC.seq ?_
  refine RunC.region ?_
  refine RunL.val (Val.indexAddr_sl rfl rfl sl_119 (by omega) (by omega)) rfl rfl rfl ?_
  refine RunL.val (Val.load_one rfl (.head _) ty_3 rfl) rfl rfl rfl ?_
  refine RunL.val (Val.pure rfl) rfl rfl rfl ?_
  refine RunL.nil ?_
  refine RunE.next ?_
  refine RunC.seq ?_
  refine RunC.region ?_
  refine RunL.val (Val.fieldAddr rfl fld_26_0) rfl rfl rfl ?_
  refine RunL.val (Val.fieldAddr rfl fld_23_0) rfl rfl rfl ?_
  refine RunL.val (Val.load_one rfl (.tail _ (.tail _ (.head _))) ty_3 rfl) rfl rfl rfl ?_
  refine RunL.val (Val.fieldAddr rfl fld_26_0) rfl rfl rfl ?_
  refine RunL.val (Val.fieldAddr rfl fld_23_1) rfl rfl rfl ?_
  refine RunL.val (Val.load_one rfl (.tail _ (.tail _ (.head _))) ty_3 rfl) rfl rfl rfl ?_
  refine RunL.new (New.buildSlice (parts := [(0, .tmp 59), (1, .tmp 62)]) rfl sl_119 zero_3 rfl rfl rfl rfl) rfl rfl rfl (fun b63 => ?_)
  refine RunL.val (Val.len_sl rfl sl_119) rfl rfl rfl ?_
  refine RunL.val (Val.pure rfl) rfl rfl rfl ?_
  refine RunL.nil ?_
  refine RunE.next ?_
  refine RunC.block ?_
  refine RunC.unroll 2 ?_
  refine RunC.seq ?_
  refine RunC.region ?_
  refine RunL.val (Val.pure rfl) rfl rfl rfl ?_
  refine RunL.nil ?_
  refine RunE.next ?_
  refine RunC.seq ?_
  refine RunC.cond rfl ?_ (fun h => absurd h (by decide))
  intro c3
  clear c3
  refine RunC.skip ?_
  refine RunE.next ?_
  refine RunC.seq ?_
  refine RunC.block ?_
  refine RunC.seq ?_
  refine RunC.region ?_
  refine RunL.val (Val.indexAddr_sl rfl rfl sl_119 (by omega) (by omega)) rfl rfl rfl ?_
  refine RunL.val (Val.load_one rfl (.head _) ty_3 rfl) rfl rfl rfl ?_
  refine RunL.val (Val.pure rfl) rfl rfl rfl ?_
  refine RunL.nil ?_
  refine RunE.next ?_
  refine RunC.region ?_
  iterate 3 refine RunL.val (Val.pure rfl) rfl rfl rfl ?_
  refine RunL.val (Val.mul rfl rfl (IntWalk.i64_in _ ⟨by omega, by omega⟩)) rfl rfl rfl ?_
  refine RunL.val (Val.pure rfl) rfl rfl rfl ?_
  refine RunL.callP (isCall_func rfl ent_47) rfl rfl rfl (fun w hm => ydown_calls _ _ (by omega) (by omega) w) ?_
  refine RunL.new (New.buildSlice (parts := [(0, .tmp 74)]) rfl sl_119 zero_3 rfl rfl rfl rfl) rfl rfl rfl (fun b75 => ?_)
  refine RunL.append (A := [(b75, _), (b63, _), (b51, _), (b10, _), (b9, _), (b37, _), (b5, _), (b6, _)]) (B := _) (x := z76) (ys := _) ap_119 rfl rfl rfl hz76 rfl (fun h => by cases h) (fun w hm => src_blk (hm.at (.head _))) (one_of rfl) (by simp only [maxLen]; omega) (by omega) rfl (fun z76 hz76 => ?_)
  refine RunL.val (Val.pure rfl) rfl rfl rfl ?_
  refine RunL.nil ?_
  refine RunE.block_normal ?_
  refine RunE.next ?_
  refine RunC.region ?_
  refine RunL.val (Val.add rfl rfl (IntWalk.i64_in _ ⟨by decide, by decide⟩)) rfl rfl rfl ?_
  refine RunL.val (Val.pure rfl) rfl rfl rfl ?_
  refine RunL.nil ?_
  refine RunE.keep (Sub.cons (t := 0) rfl (Sub.cons (t := 1) rfl (Sub.cons (t := 5) rfl (Sub.cons (t := 6) rfl (Sub.cons (t := 7) rfl (Sub.cons (t := 9) rfl (Sub.cons (t := 10) rfl (Sub.cons (t := 11) rfl (Sub.cons (t := 13) rfl (Sub.cons (t := 15) rfl (Sub.cons (t := 18) rfl (Sub.cons (t := 19) rfl (Sub.cons (t := 37) rfl (Sub.cons (t := 38) rfl (Sub.cons (t := 39) rfl (Sub.cons (t := 51) rfl (Sub.cons (t := 52) rfl (Sub.cons (t := 53) rfl (Sub.cons (t := 63) rfl (Sub.cons (t := 64) rfl (Sub.cons (t := 65) rfl (Sub.nil _)))))))))))))))))))))) (.cons (.there .here) rfl (.cons (.there .here) rfl (.cons (.there .here) rfl (.cons (.there .here) rfl (.cons (.there .here) rfl (.cons (.there .here) rfl (.cons (.there .here) rfl (Pick.skip (Pick.refl _))))))))) ?_
  refine RunE.rounds ?_
  refine RunC.seq ?_
  refine RunC.region ?_
  refine RunL.val (Val.pure rfl) rfl rfl rfl ?_
  refine RunL.nil ?_
  refine RunE.next ?_
  refine RunC.seq ?_
  refine RunC.cond rfl ?_ (fun h => absurd h (by decide))
  intro c3
  clear c3
  refine RunC.skip ?_
  refine RunE.next ?_
  refine RunC.seq ?_
  refine RunC.block ?_
  refine RunC.seq ?_
  refine RunC.region ?_
  refine RunL.val (Val.indexAddr_sl rfl rfl sl_119 (by omega) (by omega)) rfl rfl rfl ?_
  refine RunL.val (Val.load_one rfl (.head _) ty_3 rfl) rfl rfl rfl ?_
  refine RunL.val (Val.pure rfl) rfl rfl rfl ?_
  refine RunL.nil ?_
  refine RunE.next ?_
  refine RunC.region ?_
  iterate 3 refine RunL.val (Val.pure rfl) rfl rfl rfl ?_
  refine RunL.val (Val.mul rfl rfl (IntWalk.i64_in _ ⟨by omega, by omega⟩)) rfl rfl rfl ?_
  refine RunL.val (Val.pure rfl) rfl rfl rfl ?_
  refine RunL.callP (isCall_func rfl ent_47) rfl rfl rfl (fun w hm => ydown_calls _ _ (by omega) (by omega) w) ?_
  refine RunL.new (New.buildSlice (parts := [(0, .tmp 74)]) rfl sl_119 zero_3 rfl rfl rfl rfl) rfl rfl rfl (fun b75 => ?_)
  refine RunL.append (A := [(b75, _), (b63, _), (b51, _), (b10, _), (b9, _), (b37, _), (b5, _), (b6, _)]) (B := _) (x := z76) (ys := _) ap_119 rfl rfl rfl hz76 rfl (fun h => by cases h) (fun w hm => src_blk (hm.at (.head _))) (one_of rfl) (by simp only [maxLen]; omega) (by omega) rfl (fun z76 hz76 => ?_)
  refine RunL.val (Val.pure rfl) rfl rfl rfl ?_
  refine RunL.nil ?_
  refine RunE.block_normal ?_
  refine RunE.next ?_
  refine RunC.region ?_
  refine RunL.val (Val.add rfl rfl (IntWalk.i64_in _ ⟨by decide, by decide⟩)) rfl rfl rfl ?_
  refine RunL.val (Val.pure rfl) rfl rfl rfl ?_
  refine RunL.nil ?_
  refine RunE.keep (Sub.cons (t := 0) rfl (Sub.cons (t := 1) rfl (Sub.cons (t := 5) rfl (Sub.cons (t := 6) rfl (Sub.cons (t := 7) rfl (Sub.cons (t := 9) rfl (Sub.cons (t := 10) rfl (Sub.cons (t := 11) rfl (Sub.cons (t := 13) rfl (Sub.cons (t := 15) rfl (Sub.cons (t := 18) rfl (Sub.cons (t := 19) rfl (Sub.cons (t := 37) rfl (Sub.cons (t := 38) rfl (Sub.cons (t := 39) rfl (Sub.cons (t := 51) rfl (Sub.cons (t := 52) rfl (Sub.cons (t := 53) rfl (Sub.cons (t := 63) rfl (Sub.cons (t := 64) rfl (Sub.cons (t := 65) rfl (Sub.nil _)))))))))))))))))))))) (.cons (.there .here) rfl (.cons (.there .here) rfl (.cons (.there .here) rfl (.cons (.there .here) rfl (.cons (.there .here) rfl (.cons (.there .here) rfl (.cons (.there .here) rfl (Pick.skip (Pick.refl _))))))))) ?_
  refine RunE.rounds ?_
  refine RunC.seq ?_
  refine RunC.region ?_
  refine RunL.val (Val.pure rfl) rfl rfl rfl ?_
  refine RunL.nil ?_
  refine RunE.next ?_
  refine RunC.seq ?_
  refine RunC.cond rfl (fun h => absurd h (by decide)) ?_
  intro c3
  clear c3
  refine RunC.exit ?_
  refine RunE.pass_exit ?_
  refine RunE.pass_exit ?_
  refine RunE.block_here ?_
  refine RunE.block_normal ?_
  refine RunE.next ?_
  refine RunC.region ?_
  refine RunL.val (Val.add rfl rfl (IntWalk.i64_in _ ⟨by decide, by decide⟩)) rfl rfl rfl ?_
  refine RunL.val (Val.pure rfl) rfl rfl rfl ?_
  refine RunL.nil ?_
  refine RunE.keep (Sub.cons (t := 0) rfl (Sub.cons (t := 1) rfl (Sub.cons (t := 5) rfl (Sub.cons (t := 6) rfl (Sub.cons (t := 7) rfl (Sub.cons (t := 9) rfl (Sub.cons (t := 10) rfl (Sub.cons (t := 11) rfl (Sub.cons (t := 13) rfl (Sub.cons (t := 18) rfl (Sub.cons (t := 19) rfl (Sub.cons (t := 37) rfl (Sub.cons (t := 38) rfl (Sub.cons (t := 39) rfl (Sub.cons (t := 51) rfl (Sub.cons (t := 52) rfl (Sub.cons (t := 53) rfl (Sub.nil _)))))))))))))))))) (.cons (.there .here) rfl (.cons (.there .here) rfl (.cons (.there .here) rfl (.cons (.there .here) rfl (.cons (.there .here) rfl (.cons (.there .here) rfl (Pick.skip (Pick.refl _)))))))) ?_
  refine RunE.rounds ?_
  refine RunC.seq ?_
  refine RunC.region ?_
  refine RunL.val (Val.pure rfl) rfl rfl rfl ?_
  refine RunL.nil ?_
  refine RunE.next ?_
  refine RunC.seq ?_
  refine RunC.cond rfl ?_ (fun h => absurd h (by decide))
  intro c2
  clear c2
  refine RunC.skip ?_
  refine RunE.next ?_
  refine RunC.seq ?_
  refine RunC.block ?_
  refine RunC.seq ?_
  refine RunC.region ?_
  refine RunL.val (Val.indexAddr_sl rfl rfl sl_119 (by omega) (by omega)) rfl rfl rfl ?_
  refine RunL.val (Val.load_one rfl (.head _) ty_3 rfl) rfl rfl rfl ?_
  refine RunL.val (Val.pure rfl) rfl rfl rfl ?_
  refine RunL.nil ?_
  refine RunE.next ?_
  refine RunC.seq ?_
  refine RunC.region ?_
  refine RunL.val (Val.fieldAddr rfl fld_26_0) rfl rfl rfl ?_
  refine RunL.val (Val.fieldAddr rfl fld_23_0) rfl rfl rfl ?_
  refine RunL.val (Val.load_one rfl (.tail _ (.tail _ (.head _))) ty_3 rfl) rfl rfl rfl ?_
  refine RunL.val (Val.fieldAddr rfl fld_26_0) rfl rfl rfl ?_
  refine RunL.val (Val.fieldAddr rfl fld_23_1) rfl rfl rfl ?_
  refine RunL.val (Val.load_one rfl (.tail _ (.tail _ (.head _))) ty_3 rfl) rfl rfl rfl ?_
  refine RunL.new (New.buildSlice (parts := [(0, .tmp 59), (1, .tmp 62)]) rfl sl_119 zero_3 rfl rfl rfl rfl) rfl rfl rfl (fun b63 => ?_)
  refine RunL.val (Val.len_sl rfl sl_119) rfl rfl rfl ?_
  refine RunL.val (Val.pure rfl) rfl rfl rfl ?_
  refine RunL.nil ?_
  refine RunE.next ?_
  refine RunC.block ?_
  refine RunC.unroll 2 ?_
  refine RunC.seq ?_
  refine RunC.region ?_
  refine RunL.val (Val.pure rfl) rfl rfl rfl ?_
  refine RunL.nil ?_
  refine RunE.next ?_
  refine RunC.seq ?_
  refine RunC.cond rfl ?_ (fun h => absurd h (by decide))
  intro c3
  clear c3
  refine RunC.skip ?_
  refine RunE.next ?_
  refine RunC.seq ?_
  refine RunC.block ?_
  refine RunC.seq ?_
  refine RunC.region ?_
  refine RunL.val (Val.indexAddr_sl rfl rfl sl_119 (by omega) (by omega)) rfl rfl rfl ?_
  refine RunL.val (Val.load_one rfl (.head _) ty_3 rfl) rfl rfl rfl ?_
  refine RunL.val (Val.pure rfl) rfl rfl rfl ?_
  refine RunL.nil ?_
  refine RunE.next ?_
  refine RunC.region ?_
  iterate 3 refine RunL.val (Val.pure rfl) rfl rfl rfl ?_
  refine RunL.val (Val.mul rfl rfl (IntWalk.i64_in _ ⟨by omega, by omega⟩)) rfl rfl rfl ?_
  refine RunL.val (Val.pure rfl) rfl rfl rfl ?_
  refine RunL.callP (isCall_func rfl ent_47) rfl rfl rfl (fun w hm => ydown_calls _ _ (by omega) (by omega) w) ?_
  refine RunL.new (New.buildSlice (parts := [(0, .tmp 74)]) rfl sl_119 zero_3 rfl rfl rfl rfl) rfl rfl rfl (fun b75 => ?_)
  refine RunL.append (A := [(b75, _), (b63, _), (b51, _), (b10, _), (b9, _), (b37, _), (b5, _), (b6, _)]) (B := _) (x := z76) (ys := _) ap_119 rfl rfl rfl hz76 rfl (fun h => by cases h) (fun w hm => src_blk (hm.at (.head _))) (one_of rfl) (by simp only [maxLen]; omega) (by omega) rfl (fun z76 hz76 => ?_)
  refine RunL.val (Val.pure rfl) rfl rfl rfl ?_
  refine RunL.nil ?_
  refine RunE.block_normal ?_
  refine RunE.next ?_
  refine RunC.region ?_
  refine RunL.val (Val.add rfl rfl (IntWalk.i64_in _ ⟨by decide, by decide⟩)) rfl rfl rfl ?_
  refine RunL.val (Val.pure rfl) rfl rfl rfl ?_
  refine RunL.nil ?_
  refine RunE.keep (Sub.cons (t := 0) rfl (Sub.cons (t := 1) rfl (Sub.cons (t := 5) rfl (Sub.cons (t := 6) rfl (Sub.cons (t := 7) rfl (Sub.cons (t := 9) rfl (Sub.cons (t := 10) rfl (Sub.cons (t := 11) rfl (Sub.cons (t := 13) rfl (Sub.cons (t := 15) rfl (Sub.cons (t := 18) rfl (Sub.cons (t := 19) rfl (Sub.cons (t := 37) rfl (Sub.cons (t := 38) rfl (Sub.cons (t := 39) rfl (Sub.cons (t := 51) rfl (Sub.cons (t := 52) rfl (Sub.cons (t := 53) rfl (Sub.cons (t := 63) rfl (Sub.cons (t := 64) rfl (Sub.cons (t := 65) rfl (Sub.nil _)))))))))))))))))))))) (.cons (.there .here) rfl (.cons (.there .here) rfl (.cons (.there .here) rfl (.cons (.there .here) rfl (.cons (.there .here) rfl (.cons (.there .here) rfl (.cons (.there .here) rfl (Pick.skip (Pick.refl _))))))))) ?_
  refine RunE.rounds ?_
  refine RunC.seq ?_
  refine RunC.region ?_
  refine RunL.val (Val.pure rfl) rfl rfl rfl ?_
  refine RunL.nil ?_
  refine RunE.next ?_
  refine RunC.seq ?_
  refine RunC.cond rfl ?_ (fun h => absurd h (by decide))
  intro c3
  clear c3
  refine RunC.skip ?_
  refine RunE.next ?_
  refine RunC.seq ?_
  refine RunC.block ?_
  refine RunC.seq ?_
  refine RunC.region ?_
  refine RunL.val (Val.indexAddr_sl rfl rfl sl_119 (by omega) (by omega)) rfl rfl rfl ?_
  refine RunL.val (Val.load_one rfl (.head _) ty_3 rfl) rfl rfl rfl ?_
  refine RunL.val (Val.pure rfl) rfl rfl rfl ?_
  refine RunL.nil ?_
  refine RunE.next ?_
  refine RunC.region ?_
  iterate 3 refine RunL.val (Val.pure rfl) rfl rfl rfl ?_
  refine RunL.val (Val.mul rfl rfl (IntWalk.i64_in _ ⟨by omega, by omega⟩)) rfl rfl rfl ?_
  refine RunL.val (Val.pure rfl) rfl rfl rfl ?_
  refine RunL.callP (isCall_func rfl ent_47) rfl rfl rfl (fun w hm => ydown_calls _ _ (by omega) (by omega) w) ?_
  refine RunL.new (New.buildSlice (parts := [(0, .tmp 74)]) rfl sl_119 zero_3 rfl rfl rfl rfl) rfl rfl rfl (fun b75 => ?_)
  refine RunL.append (A := [(b75, _), (b63, _), (b51, _), (b10, _), (b9, _), (b37, _), (b5, _), (b6, _)]) (B := _) (x := z76) (ys := _) ap_119 rfl rfl rfl hz76 rfl (fun h => by cases h) (fun w hm => src_blk (hm.at (.head _))) (one_of rfl) (by simp only [maxLen]; omega) (by omega) rfl (fun z76 hz76 => ?_)
  refine RunL.val (Val.pure rfl) rfl rfl rfl ?_
  refine RunL.nil ?_
  refine RunE.block_normal ?_
  refine RunE.next ?_
  refine RunC.region ?_
  refine RunL.val (Val.add rfl rfl (IntWalk.i64_in _ ⟨by decide, by decide⟩)) rfl rfl rfl ?_
  refine RunL.val (Val.pure rfl) rfl rfl rfl ?_
  refine RunL.nil ?_
  refine RunE.keep (Sub.cons (t := 0) rfl (Sub.cons (t := 1) rfl (Sub.cons (t := 5) rfl (Sub.cons (t := 6) rfl (Sub.cons (t := 7) rfl (Sub.cons (t := 9) rfl (Sub.cons (t := 10) rfl (Sub.cons (t := 11) rfl (Sub.cons (t := 13) rfl (Sub.cons (t := 15) rfl (Sub.cons (t := 18) rfl (Sub.cons (t := 19) rfl (Sub.cons (t := 37) rfl (Sub.cons (t := 38) rfl (Sub.cons (t := 39) rfl (Sub.cons (t := 51) rfl (Sub.cons (t := 52) rfl (Sub.cons (t := 53) rfl (Sub.cons (t := 63) rfl (Sub.cons (t := 64) rfl (Sub.cons (t := 65) rfl (Sub.nil _)))))))))))))))))))))) (.cons (.there .here) rfl (.cons (.there .here) rfl (.cons (.there .here) rfl (.cons (.there .here) rfl (.cons (.there .here) rfl (.cons (.there .here) rfl (.cons (.there .here) rfl (Pick.skip (Pick.refl _))))))))) ?_
  refine RunE.rounds ?_
  refine RunC.seq ?_
  refine RunC.region ?_
  refine RunL.val (Val.pure rfl) rfl rfl rfl ?_
  refine RunL.nil ?_
  refine RunE.next ?_
  refine RunC.seq ?_
  refine RunC.cond rfl (fun h => absurd h (by decide)) ?_
  intro c3
  clear c3
  refine RunC.exit ?_
  refine RunE.pass_exit ?_
  refine RunE.pass_exit ?_
  refine RunE.block_here ?_
  refine RunE.block_normal ?_
  refine RunE.next ?_
  refine RunC.region ?_
  refine RunL.val (Val.add rfl rfl (IntWalk.i64_in _ ⟨by decide, by decide⟩)) rfl rfl rfl ?_
  refine RunL.val (Val.pure rfl) rfl rfl rfl ?_
  refine RunL.nil ?_
  refine RunE.keep (Sub.cons (t := 0) rfl (Sub.cons (t := 1) rfl (Sub.cons (t := 5) rfl (Sub.cons (t := 6) rfl (Sub.cons (t := 7) rfl (Sub.cons (t := 9) rfl (Sub.cons (t := 10) rfl (Sub.cons (t := 11) rfl (Sub.cons (t := 13) rfl (Sub.cons (t := 18) rfl (Sub.cons (t := 19) rfl (Sub.cons (t := 37) rfl (Sub.cons (t := 38) rfl (Sub.cons (t := 39) rfl (Sub.cons (t := 51) rfl (Sub.cons (t := 52) rfl (Sub.cons (t := 53) rfl (Sub.nil _)))))))))))))))))) (.cons (.there .here) rfl (.cons (.there .here) rfl (.cons (.there .here) rfl (.cons (.there .here) rfl (.cons (.there .here) rfl (.cons (.there .here) rfl (Pick.skip (Pick.refl _)))))))) ?_
  refine RunE.rounds ?_
  refine RunC.seq ?_
  refine RunC.region ?_
  refine RunL.val (Val.pure rfl) rfl rfl rfl ?_
  refine RunL.nil ?_
  refine RunE.next ?_
  refine RunC.seq ?_
  refine RunC.cond rfl (fun h => absurd h (by decide)) ?_
  intro c2
  clear c2
  refine RunC.exit ?_
  refine RunE.pass_exit ?_
  refine RunE.pass_exit ?_
  refine RunE.block_here ?_
  refine RunE.block_normal ?_
  refine RunE.next ?_
  refine RunC.region ?_
  refine RunL.val (Val.add rfl rfl (IntWalk.i64_in _ ⟨by decide, by decide⟩)) rfl rfl rfl ?_
  refine RunL.val (Val.pure rfl) rfl rfl rfl ?_
  refine RunL.nil ?_
  refine RunE.keep (Sub.cons (t := 0) rfl (Sub.cons (t := 1) rfl (Sub.cons (t := 5) rfl (Sub.cons (t := 6) rfl (Sub.cons (t := 7) rfl (Sub.cons (t := 9) rfl (Sub.cons (t := 10) rfl (Sub.cons (t := 11) rfl (Sub.cons (t := 18) rfl (Sub.cons (t := 19) rfl (Sub.cons (t := 37) rfl (Sub.cons (t := 38) rfl (Sub.cons (t := 39) rfl (Sub.nil _)))))))))))))) (.cons (.there .here) rfl (.cons (.there .here) rfl (.cons (.there .here) rfl (.cons (.there .here) rfl (.cons (.there .here) rfl (Pick.skip (Pick.refl _))))))) ?_
  refine RunE.rounds ?_
  refine RunC.seq ?_
  refine RunC.region ?_
  refine RunL.val (Val.pure rfl) rfl rfl rfl ?_
  refine RunL.nil ?_
  refine RunE.next ?_
  refine RunC.seq ?_
  refine RunC.cond rfl (fun h => absurd h (by decide)) ?_
  intro c1
  clear c1
  refine RunC.exit ?_
  refine RunE.pass_exit ?_
  refine RunE.pass_exit ?_
  refine RunE.block_here ?_
  refine RunE.next ?_
  obtain ⟨bz76, cz76, rz76, rfl, lz761, lz762, lz763⟩ := hz76.has (by decide)
  refine RunC.draw 14 fol_ (.cons .here rfl (.cons .here rfl (.cons .here rfl (.cons .here rfl (.cons (.there .here) rfl .nil))))) ?_
  refine RunA.val (i := 0) rfl (by kernel_rfl) (by kernel_rfl) (Val.pure rfl) rfl rfl rfl (fun _ _ _ h => h) (.cons .here rfl (.cons .here rfl (.cons .here rfl (.cons .here rfl (.cons (.there .here) rfl .nil))))) rfl ?_
  refine RunA.val (i := 1) rfl (by kernel_rfl) (by kernel_rfl) (Val.pure rfl) rfl rfl rfl (fun _ _ _ h => h) (.cons .here rfl (.cons .here rfl (.cons .here rfl (.cons .here rfl (.cons (.there .here) rfl .nil))))) rfl ?_
  refine RunA.val (i := 2) rfl (by kernel_rfl) (by kernel_rfl) (Val.pure rfl) rfl rfl rfl (fun _ _ _ h => h) (.cons .here rfl (.cons .here rfl (.cons .here rfl (.cons .here rfl (.cons (.there .here) rfl .nil))))) rfl ?_
  refine RunA.val (i := 3) rfl (by kernel_rfl) (by kernel_rfl) (Val.indexAddr_sl rfl rfl sl_119 (by omega) (by omega)) rfl rfl rfl (fun _ _ _ h => h) (.cons .here rfl (.cons .here rfl (.cons .here rfl (.cons .here rfl (.cons (.there .here) rfl .nil))))) rfl ?_
  refine RunA.val (i := 4) rfl (by kernel_rfl) (by kernel_rfl) (Val.load_one rfl (.tail _ (.tail _ (.tail _ (.tail _ (.head _))))) ty_3 rfl) rfl rfl rfl (fun _ _ _ h => h) (.cons .here rfl (.cons .here rfl (.cons .here rfl (.cons .here rfl (.cons (.there .here) rfl .nil))))) rfl ?_
  refine RunA.val (i := 5) rfl (by kernel_rfl) (by kernel_rfl) (Val.pure rfl) rfl rfl rfl (fun _ _ _ h => h) (.cons .here rfl (.cons .here rfl (.cons .here rfl (.cons .here rfl (.cons (.there .here) rfl .nil))))) rfl ?_
  refine RunA.val (i := 6) rfl (by kernel_rfl) (by kernel_rfl) (Val.sliceFrom rfl rfl sl_119 rfl (by decide) (by omega) (by omega)) rfl rfl rfl (fun _ _ _ h => h) (.cons .here rfl (.cons .here rfl (.cons .here rfl (.cons .here rfl (.cons (.there .here) rfl .nil))))) rfl ?_
  refine RunA.one (i := 7) (by kernel_rfl) (by kernel_rfl) ?_
  refine RunI.callP rfl (isCall_func rfl ent_77) rfl rfl rfl (fun w hm => yends_calls _ (htL g.f t z.1) _ _ _ _ w (sl_rowAt _ (hm.at (.tail _ (.tail _ (.tail _ (.tail _ (.tail _ (.head _))))))) rfl) (by simp [htL])) (RunK.toA (.cons .here rfl (.cons .here rfl (.cons .here rfl (.cons .here rfl (.cons (.there .here) rfl .nil))))) (.cons .here rfl (.cons .here rfl (.cons .here rfl (.cons .here rfl (.cons .here rfl .nil))))) rfl ?_)
  refine RunA.val (i := 8) rfl (by kernel_rfl) (by kernel_rfl) (Val.pure rfl) rfl rfl rfl (fun _ _ _ h => h) (.cons .here rfl (.cons .here rfl (.cons .here rfl (.cons .here rfl (.cons (.there .here) rfl .nil))))) rfl ?_
  refine RunA.val (i := 9) rfl (by kernel_rfl) (by kernel_rfl) (Val.pure rfl) rfl rfl rfl (fun _ _ _ h => h) (.cons .here rfl (.cons .here rfl (.cons .here rfl (.cons .here rfl (.cons (.there .here) rfl .nil))))) rfl ?_
  refine RunA.val (i := 10) rfl (by kernel_rfl) (by kernel_rfl) (Val.pure rfl) rfl rfl rfl (fun _ _ _ h => h) (.cons .here rfl (.cons .here rfl (.cons .here rfl (.cons .here rfl (.cons (.there .here) rfl .nil))))) rfl ?_
  refine RunA.val (i := 11) rfl (by kernel_rfl) (by kernel_rfl) (Val.indexAddr_arr rfl rfl arr_72 (by decide) (by decide)) rfl rfl rfl (fun _ _ _ h => h) (.cons .here rfl (.cons .here rfl (.cons .here rfl (.cons .here rfl (.cons (.there .here) rfl .nil))))) rfl ?_
  refine RunA.val (i := 12) rfl (by kernel_rfl) (by kernel_rfl) (Val.fieldAddr rfl fld_64_0) rfl rfl rfl (fun _ _ _ h => h) (.cons .here rfl (.cons .here rfl (.cons .here rfl (.cons .here rfl (.cons (.there .here) rfl .nil))))) rfl ?_
  refine RunA.one (i := 13) (by kernel_rfl) (by kernel_rfl) ?_
  refine RunI.sto rfl (Sto.store rfl rfl (.there (.there (.there (.there .here)))) ty_3 rfl rfl) rfl rfl (RunK.toA (.cons .here rfl (.cons .here rfl (.cons .here rfl (.cons .here rfl (.cons (.there .here) rfl .nil))))) (.cons .here rfl (.cons .here rfl (.cons .here rfl (.cons .here rfl (.cons .here rfl .nil))))) rfl ?_)
  refine RunA.toB (by kernel_rfl) ?_
  refine RunB.one (i := 14) (by kernel_rfl) ?_
  refine RunI.val rfl (Val.indexAddr_arr rfl rfl arr_72 (by decide) (by decide)) rfl rfl rfl (RunK.toB ?_)
  refine RunB.one (i := 15) (by kernel_rfl) ?_
  refine RunI.val rfl (Val.fieldAddr rfl fld_64_1) rfl rfl rfl (RunK.toB ?_)
  refine RunB.one (i := 16) (by kernel_rfl) ?_
  refine RunI.sto rfl (Sto.store rfl rfl (.there (.there (.there (.there .here)))) ty_3 rfl rfl) rfl rfl (RunK.toB ?_)
  refine RunB.done (by kernel_rfl) ?_
  refine RunE.block_normal ?_
  refine RunE.next ?_
  refine RunC.region ?_
  refine RunL.val (Val.add rfl rfl (IntWalk.i64_in _ ⟨by decide, by decide⟩)) rfl rfl rfl ?_
  refine RunL.val (Val.pure rfl) rfl rfl rfl ?_
  refine RunL.nil ?_
  refine RunE.keep (Sub.cons (t := 0) rfl (Sub.cons (t := 1) rfl (Sub.cons (t := 5) rfl (Sub.cons (t := 6) rfl (Sub.cons (t := 18) rfl (Sub.cons (t := 19) rfl (Sub.nil _))))))) (.cons (.there (.there (.there .here))) rfl (.cons (.there (.there (.there .here))) rfl .nil)) ?_
  refine RunE.rounds ?_
  refine RunC.seq ?_
  refine RunC.region ?_
  refine RunL.val (Val.pure rfl) rfl rfl rfl ?_
  refine RunL.nil ?_
  refine RunE.next ?_
  refine RunC.seq ?_
  refine RunC.cond rfl ?_ (fun h => absurd h (by decide))
  intro c0
  clear c0
  refine RunC.skip ?_
  refine RunE.next ?_
  refine RunC.seq ?_
  refine RunC.block ?_
  refine RunC.seq ?_
  refine RunC.region ?_
  refine RunL.val (Val.pure rfl) rfl rfl rfl ?_
  refine RunL.val (Val.index1 rfl rfl arr1_113 (by decide) (by decide) rfl) rfl rfl rfl ?_
  refine RunL.val (Val.pure rfl) rfl rfl rfl ?_
  refine RunL.val (Val.pure rfl) rfl rfl rfl ?_
  refine RunL.nil ?_
  refine RunE.next ?_
  refine RunC.seq ?_
  refine RunC.region ?_
  refine RunL.val (Val.pure rfl) rfl rfl rfl ?_
  refine RunL.val (Val.pure rfl) rfl rfl rfl ?_
  refine RunL.callP (isCall_value rfl rfl ent_91) rfl rfl rfl (fun w hm => ysecond_calls g a _ w (hm.old_at hb (by simp))) ?_
  refine RunL.new (New.alloc zero_26) rfl rfl rfl (fun b9 => ?_)
  refine RunL.sto (Sto.store rfl rfl .here ty_26 rfl rfl) rfl rfl ?_
  refine RunL.nil ?_
  refine RunE.next ?_
  refine RunC.seq ?_
  refine RunC.region ?_
  refine RunL.val (Val.fieldAddr rfl fld_26_5) rfl rfl rfl ?_
  refine RunL.val (Val.load_one rfl (.head _) ty_24 rfl) rfl rfl rfl ?_
  refine RunL.val (Val.pure rfl) rfl rfl rfl ?_
  refine RunL.val (Val.indexAddr_slp rfl rfl sl_24 (by omega) (by omega) (hG.s2.ptrM hi2)) rfl rfl rfl ?_
  refine RunL.val (Val.fieldAddr rfl fld_54_0) rfl rfl rfl ?_
  refine RunL.val (Val.fieldAddr rfl fld_52_1) rfl rfl rfl ?_
  refine RunL.val (Val.load_gen rfl (fun w hm => hG.s2.loadPart hm (by simp) ty_23 hi2 hu (j := 2) (by decide) (vs := [.int .i64 u.ly.lo, .int .i64 u.ly.hi]) rfl (by decide) (by simp))) rfl rfl rfl ?_
  refine RunL.new (New.alloc zero_23) rfl rfl rfl (fun b10 => ?_)
  refine RunL.sto (Sto.store rfl rfl .here ty_23 rfl rfl) rfl rfl ?_
  refine RunL.nil ?_
  refine RunE.next ?_
  refine RunC.seq ?_
  refine RunC.region ?_
  refine RunL.val (Val.pure rfl) rfl rfl rfl ?_
  refine RunL.nil ?_
  refine RunE.next ?_
  refine RunC.seq ?_
  refine RunC.seq ?_
  refine RunC.region ?_
  refine RunL.val (Val.fieldAddr rfl fld_23_0) rfl rfl rfl ?_
  refine RunL.val (Val.load_one rfl (.head _) ty_3 rfl) rfl rfl rfl ?_
  refine RunL.val (Val.fieldAddr rfl fld_23_1) rfl rfl rfl ?_
  refine RunL.val (Val.load_one rfl (.head _) ty_3 rfl) rfl rfl rfl ?_
  refine RunL.new (New.buildSlice (parts := [(0, .tmp 34), (1, .tmp 36)]) rfl sl_119 zero_3 rfl rfl rfl rfl) rfl rfl rfl (fun b37 => ?_)
  refine RunL.val (Val.len_sl rfl sl_119) rfl rfl rfl ?_
  refine RunL.val (Val.pure rfl) rfl rfl rfl ?_
  refine RunL.nil ?_
  refine RunE.next ?_
  refine RunC.block ?_
  refine RunC.unroll 2 ?_
  refine RunC.seq ?_
  refine RunC.region ?_
  refine RunL.val (Val.pure rfl) rfl rfl rfl ?_
  refine RunL.nil ?_
  refine RunE.next ?_
  refine RunC.seq ?_
  refine RunC.cond rfl ?_ (fun h => absurd h (by decide))
  intro c1
  clear c1
  refine RunC.skip ?_
  refine RunE.next ?_
  refine RunC.seq ?_
  refine RunC.block ?_
  refine RunC.seq ?_
  refine RunC.region ?_
  refine RunL.val (Val.indexAddr_sl rfl rfl sl_119 (by omega) (by omega)) rfl rfl rfl ?_
  refine RunL.val (Val.load_one rfl (.head _) ty_3 rfl) rfl rfl rfl ?_
  refine RunL.val (Val.pure rfl) rfl rfl rfl ?_
  refine RunL.nil ?_
  refine RunE.next ?_
  refine RunC.seq ?_
  refine RunC.draw 11 fol_ (.cons .here rfl (.cons .here rfl (.cons .here rfl (.cons .here rfl (.cons .here rfl .nil))))) ?_
  refine RunA.val (i := 0) rfl (by kernel_rfl) (by kernel_rfl) (Val.pure rfl) rfl rfl rfl (fun _ _ _ h => h) (.cons .here rfl (.cons .here rfl (.cons .here rfl (.cons .here rfl (.cons .here rfl .nil))))) rfl ?_
  refine RunA.val (i := 1) rfl (by kernel_rfl) (by kernel_rfl) (Val.indexAddr_arr rfl rfl arr_72 (by decide) (by decide)) rfl rfl rfl (fun _ _ _ h => h) (.cons .here rfl (.cons .here rfl (.cons .here rfl (.cons .here rfl (.cons .here rfl .nil))))) rfl ?_
  refine RunA.val (i := 2) rfl (by kernel_rfl) (by kernel_rfl) (Val.fieldAddr rfl fld_64_0) rfl rfl rfl (fun _ _ _ h => h) (.cons .here rfl (.cons .here rfl (.cons .here rfl (.cons .here rfl (.cons .here rfl .nil))))) rfl ?_
  refine RunA.val (i := 3) rfl (by kernel_rfl) (by kernel_rfl) (Val.load_one rfl (.tail _ (.tail _ (.tail _ (.head _)))) ty_3 rfl) rfl rfl rfl (fun _ _ _ h => h) (.cons .here rfl (.cons .here rfl (.cons .here rfl (.cons .here rfl (.cons .here rfl .nil))))) rfl ?_
  refine RunA.val (i := 4) rfl (by kernel_rfl) (by kernel_rfl) (Val.pure rfl) rfl rfl rfl (fun _ _ _ h => h) (.cons .here rfl (.cons .here rfl (.cons .here rfl (.cons .here rfl (.cons .here rfl .nil))))) rfl ?_
  refine RunA.val (i := 5) rfl (by kernel_rfl) (by kernel_rfl) (Val.indexAddr_arr rfl rfl arr_72 (by decide) (by decide)) rfl rfl rfl (fun _ _ _ h => h) (.cons .here rfl (.cons .here rfl (.cons .here rfl (.cons .here rfl (.cons .here rfl .nil))))) rfl ?_
  refine RunA.val (i := 6) rfl (by kernel_rfl) (by kernel_rfl) (Val.fieldAddr rfl fld_64_1) rfl rfl rfl (fun _ _ _ h => h) (.cons .here rfl (.cons .here rfl (.cons .here rfl (.cons .here rfl (.cons .here rfl .nil))))) rfl ?_
  refine RunA.val (i := 7) rfl (by kernel_rfl) (by kernel_rfl) (Val.load_one rfl (.tail _ (.tail _ (.tail _ (.head _)))) ty_3 rfl) rfl rfl rfl (fun _ _ _ h => h) (.cons .here rfl (.cons .here rfl (.cons .here rfl (.cons .here rfl (.cons .here rfl .nil))))) rfl ?_
  refine RunA.val (i := 10) rfl (by kernel_rfl) (by kernel_rfl) (Val.pure rfl) rfl rfl rfl (fun _ _ _ h => h) (.cons .here rfl (.cons .here rfl (.cons .here rfl (.cons .here rfl (.cons .here rfl .nil))))) rfl ?_
  refine RunA.one (i := 8) (by kernel_rfl) (by kernel_rfl) ?_
  refine RunI.new rfl (New.buildSlice (parts := [(0, .tmp 46), (1, .tmp 50)]) rfl sl_119 zero_3 rfl rfl rfl rfl) rfl rfl rfl (fun b51 => (RunK.toA (.cons .here rfl (.cons .here rfl (.cons .here rfl (.cons .here rfl (.cons .here rfl (.cons .here rfl .nil)))))) (.cons (.there .here) rfl (.cons (.there .here) rfl (.cons (.there .here) rfl (.cons (.there .here) rfl (.cons (.there .here) rfl .nil))))) rfl ?_))
  refine RunA.val (i := 9) rfl (by kernel_rfl) (by kernel_rfl) (Val.len_sl rfl sl_119) rfl rfl rfl (fun _ _ _ h => h) (.cons .here rfl (.cons .here rfl (.cons .here rfl (.cons .here rfl (.cons .here rfl (.cons .here rfl .nil)))))) rfl ?_
  refine RunA.done (by kernel_rfl) ?_
  refine RunE.next ?_
  refine RunC.block ?_
  refine RunC.unroll 2 ?_
  refine RunC.seq ?_
  refine RunC.region ?_
  refine RunL.val (Val.pure rfl) rfl rfl rfl ?_
  refine RunL.nil ?_
  refine RunE.next ?_
  refine RunC.seq ?_
  refine RunC.cond rfl ?_ (fun h => absurd h (by decide))
  intro c2
  clear c2
  refine RunC.skip ?_
  refine RunE.next ?_
  refine RunC.seq ?_
  refine RunC.block ?_
  refine RunC.seq ?_
  refine RunC.region ?_
  refine RunL.val (Val.indexAddr_sl rfl rfl sl_119 (by omega) (by omega)) rfl rfl rfl ?_
  refine RunL.val (Val.load_one rfl (.head _) ty_3 rfl) rfl rfl rfl ?_
  refine RunL.val (Val.pure rfl) rfl rfl rfl ?_
  refine RunL.nil ?_
  refine RunE.next ?_
  refine RunC.seq ?_
  refine RunC.region ?_
  refine RunL.val (Val.fieldAddr rfl fld_26_0) rfl rfl rfl ?_
  refine RunL.val (Val.fieldAddr rfl fld_23_0) rfl rfl rfl ?_
  refine RunL.val (Val.load_one rfl (.tail _ (.tail _ (.tail _ (.head _)))) ty_3 rfl) rfl rfl rfl ?_
  refine RunL.val (Val.fieldAddr rfl fld_26_0) rfl rfl rfl ?_
  refine RunL.val (Val.fieldAddr rfl fld_23_1) rfl rfl rfl ?_
  refine RunL.val (Val.load_one rfl (.tail _ (.tail _ (.tail _ (.head _)))) ty_3 rfl) rfl rfl rfl ?_
  refine RunL.new (New.buildSlice (parts := [(0, .tmp 59), (1, .tmp 62)]) rfl sl_119 zero_3 rfl rfl rfl rfl) rfl rfl rfl (fun b63 => ?_)
  refine RunL.val (Val.len_sl rfl sl_119) rfl rfl rfl ?_
  refine RunL.val (Val.pure rfl) rfl rfl rfl ?_
  refine RunL.nil ?_
  refine RunE.next ?_
  refine RunC.block ?_
  refine RunC.unroll 2 ?_
  refine RunC.seq ?_
  refine RunC.region ?_
  refine RunL.val (Val.pure rfl) rfl rfl rfl ?_
  refine RunL.nil ?_
  refine RunE.next ?_
  refine RunC.seq ?_
  refine RunC.cond rfl ?_ (fun h => absurd h (by decide))
  intro c3
  clear c3
  refine RunC.skip ?_
  refine RunE.next ?_
  refine RunC.seq ?_
  refine RunC.block ?_
  refine RunC.seq ?_
  refine RunC.region ?_
  refine RunL.val (Val.indexAddr_sl rfl rfl sl_119 (by omega) (by omega)) rfl rfl rfl ?_
  refine RunL.val (Val.load_one rfl (.head _) ty_3 rfl) rfl rfl rfl ?_
  refine RunL.val (Val.pure rfl) rfl rfl rfl ?_
  refine RunL.nil ?_
  refine RunE.next ?_
  refine RunC.region ?_
  iterate 3 refine RunL.val (Val.pure rfl) rfl rfl rfl ?_
  refine RunL.val (Val.mul rfl rfl (IntWalk.i64_in _ ⟨by omega, by omega⟩)) rfl rfl rfl ?_
  refine RunL.val (Val.pure rfl) rfl rfl rfl ?_
  refine RunL.callP (isCall_func rfl ent_47) rfl rfl rfl (fun w hm => ydown_calls _ _ (by omega) (by omega) w) ?_
  refine RunL.new (New.buildSlice (parts := [(0, .tmp 74)]) rfl sl_119 zero_3 rfl rfl rfl rfl) rfl rfl rfl (fun b75 => ?_)
  refine RunL.append (A := [(b75, _), (b63, _), (b51, _), (b37, _), (b10, _), (b9, _), (b5, _), (b6, _)]) (B := _) (x := none) (ys := _) ap_119 rfl rfl rfl OwnOk.start rfl (fun h => by cases h) (fun w hm => src_blk (hm.at (.head _))) (one_of rfl) (by simp only [maxLen]; omega) (by omega) rfl (fun z76 hz76 => ?_)
  refine RunL.val (Val.pure rfl) rfl rfl rfl ?_
  refine RunL.nil ?_
  refine RunE.block_normal ?_
  refine RunE.next ?_
  refine RunC.region ?_
  refine RunL.val (Val.add rfl rfl (IntWalk.i64_in _ ⟨by decide, by decide⟩)) rfl rfl rfl ?_
  refine RunL.val (Val.pure rfl) rfl rfl rfl ?_
  refine RunL.nil ?_
  refine RunE.keep (Sub.cons (t := 0) rfl (Sub.cons (t := 1) rfl (Sub.cons (t := 5) rfl (Sub.cons (t := 6) rfl (Sub.cons (t := 7) rfl (Sub.cons (t := 9) rfl (Sub.cons (t := 10) rfl (Sub.cons (t := 11) rfl (Sub.cons (t := 13) rfl (Sub.cons (t := 15) rfl (Sub.cons (t := 18) rfl (Sub.cons (t := 19) rfl (Sub.cons (t := 37) rfl (Sub.cons (t := 38) rfl (Sub.cons (t := 39) rfl (Sub.cons (t := 51) rfl (Sub.cons (t := 52) rfl (Sub.cons (t := 53) rfl (Sub.cons (t := 63) rfl (Sub.cons (t := 64) rfl (Sub.cons (t := 65) rfl (Sub.nil _)))))))))))))))))))))) (.cons (.there .here) rfl (.cons (.there .here) rfl (.cons (.there (.there .here)) rfl (.cons (.there (.there .here)) rfl (.cons (.there .here) rfl (.cons (.there .here) rfl (.cons (.there .here) rfl (Pick.skip (Pick.refl _))))))))) ?_
  refine RunE.rounds ?_
  refine RunC.seq ?_
  refine RunC.region ?_
  refine RunL.val (Val.pure rfl) rfl rfl rfl ?_
  refine RunL.nil ?_
  refine RunE.next ?_
  refine RunC.seq ?_
  refine RunC.cond rfl ?_ (fun h => absurd h (by decide))
  intro c3
  clear c3
  refine RunC.skip ?_
  refine RunE.next ?_
  refine RunC.seq ?_
  refine RunC.block ?_
  refine RunC.seq ?_
  refine RunC.region ?_
  refine RunL.val (Val.indexAddr_sl rfl rfl sl_119 (by omega) (by omega)) rfl rfl rfl ?_
  refine RunL.val (Val.load_one rfl (.head _) ty_3 rfl) rfl rfl rfl ?_
  refine RunL.val (Val.pure rfl) rfl rfl rfl ?_
  refine RunL.nil ?_
  refine RunE.next ?_
  refine RunC.region ?_
  iterate 3 refine RunL.val (Val.pure rfl) rfl rfl rfl ?_
  refine RunL.val (Val.mul rfl rfl (IntWalk.i64_in _ ⟨by omega, by omega⟩)) rfl rfl rfl ?_
  refine RunL.val (Val.pure rfl) rfl rfl rfl ?_
  refine RunL.callP (isCall_func rfl ent_47) rfl rfl rfl (fun w hm => ydown_calls _ _ (by omega) (by omega) w) ?_
  refine RunL.new (New.buildSlice (parts := [(0, .tmp 74)]) rfl sl_119 zero_3 rfl rfl rfl rfl) rfl rfl rfl (fun b75 => ?_)
  refine RunL.append (A := [(b75, _), (b63, _), (b51, _), (b10, _), (b9, _), (b37, _), (b5, _), (b6, _)]) (B := _) (x := z76) (ys := _) ap_119 rfl rfl rfl hz76 rfl (fun h => by cases h) (fun w hm => src_blk (hm.at (.head _))) (one_of rfl) (by simp only [maxLen]; omega) (by omega) rfl (fun z76 hz76 => ?_)
  refine RunL.val (Val.pure rfl) rfl rfl rfl ?_
  refine RunL.nil ?_
  refine RunE.block_normal ?_
  refine RunE.next ?_
  refine RunC.region ?_
  refine RunL.val (Val.add rfl rfl (IntWalk.i64_in _ ⟨by decide, by decide⟩)) rfl rfl rfl ?_
  refine RunL.val (Val.pure rfl) rfl rfl rfl ?_
  refine RunL.nil ?_
  refine RunE.keep (Sub.cons (t := 0) rfl (Sub.cons (t := 1) rfl (Sub.cons (t := 5) rfl (Sub.cons (t := 6) rfl (Sub.cons (t := 7) rfl (Sub.cons (t := 9) rfl (Sub.cons (t := 10) rfl (Sub.cons (t := 11) rfl (Sub.cons (t := 13) rfl (Sub.cons (t := 15) rfl (Sub.cons (t := 18) rfl (Sub.cons (t := 19) rfl (Sub.cons (t := 37) rfl (Sub.cons (t := 38) rfl (Sub.cons (t := 39) rfl (Sub.cons (t := 51) rfl (Sub.cons (t := 52) rfl (Sub.cons (t := 53) rfl (Sub.cons (t := 63) rfl (Sub.cons (t := 64) rfl (Sub.cons (t := 65) rfl (Sub.nil _)))))))))))))))))))))) (.cons (.there .here) rfl (.cons (.there .here) rfl (.cons (.there .here) rfl (.cons (.there .here) rfl (.cons (.there .here) rfl (.cons (.there .here) rfl (.cons (.there .here) rfl (Pick.skip (Pick.refl _))))))))) ?_
  refine RunE.rounds ?_
  refine RunC.seq ?_
  refine RunC.region ?_
  refine RunL.val (Val.pure rfl) rfl rfl rfl ?_
  refine RunL.nil ?_
  refine RunE.next ?_
  refine RunC.seq ?_
  refine RunC.cond rfl (fun h => absurd h (by decide)) ?_
  intro c3
  clear c3
  refine RunC.exit ?_
  refine RunE.pass_exit ?_
  refine RunE.pass_exit ?_
  refine RunE.block_here ?_
  refine RunE.block_normal ?_
  refine RunE.next ?_
  refine RunC.region ?_
  refine RunL.val (Val.add rfl rfl (IntWalk.i64_in _ ⟨by decide, by decide⟩)) rfl rfl rfl ?_
  refine RunL.val (Val.pure rfl) rfl rfl rfl ?_
  refine RunL.nil ?_
  refine RunE.keep (Sub.cons (t := 0) rfl (Sub.cons (t := 1) rfl (Sub.cons (t := 5) rfl (Sub.cons (t := 6) rfl (Sub.cons (t := 7) rfl (Sub.cons (t := 9) rfl (Sub.cons (t := 10) rfl (Sub.cons (t := 11) rfl (Sub.cons (t := 13) rfl (Sub.cons (t := 18) rfl (Sub.cons (t := 19) rfl (Sub.cons (t := 37) rfl (Sub.cons (t := 38) rfl (Sub.cons (t := 39) rfl (Sub.cons (t := 51) rfl (Sub.cons (t := 52) rfl (Sub.cons (t := 53) rfl (Sub.nil _)))))))))))))))))) (.cons (.there .here) rfl (.cons (.there .here) rfl (.cons (.there .here) rfl (.cons (.there .here) rfl (.cons (.there .here) rfl (.cons (.there .here) rfl (Pick.skip (Pick.refl _)))))))) ?_
  refine RunE.rounds ?_
  refine RunC.seq ?_
  refine RunC.region ?_
  refine RunL.val (Val.pure rfl) rfl rfl rfl ?_
  refine RunL.nil ?_
  refine RunE.next ?_
  refine RunC.seq ?_
  refine RunC.cond rfl ?_ (fun h => absurd h (by decide))
  intro c2
  clear c2
  refine RunC.skip ?_
  refine RunE.next ?_
  refine RunC.seq ?_
  refine RunC.block ?_
  refine RunC.seq ?_
  refine RunC.region ?_
  refine RunL.val (Val.indexAddr_sl rfl rfl sl_119 (by omega) (by omega)) rfl rfl rfl ?_
  refine RunL.val (Val.load_one rfl (.head _) ty_3 rfl) rfl rfl rfl ?_
  refine RunL.val (Val.pure rfl) rfl rfl rfl ?_
  refine RunL.nil ?_
  refine RunE.next ?_
  refine RunC.seq ?_
  refine RunC.region ?_
  refine RunL.val (Val.fieldAddr rfl fld_26_0) rfl rfl rfl ?_
  refine RunL.val (Val.fieldAddr rfl fld_23_0) rfl rfl rfl ?_
  refine RunL.val (Val.load_one rfl (.tail _ (.tail _ (.head _))) ty_3 rfl) rfl rfl rfl ?_
  refine RunL.val (Val.fieldAddr rfl fld_26_0) rfl rfl rfl ?_
  refine RunL.val (Val.fieldAddr rfl fld_23_1) rfl rfl rfl ?_
  refine RunL.val (Val.load_one rfl (.tail _ (.tail _ (.head _))) ty_3 rfl) rfl rfl rfl ?_
  refine RunL.new (New.buildSlice (parts := [(0, .tmp 59), (1, .tmp 62)]) rfl sl_119 zero_3 rfl rfl rfl rfl) rfl rfl rfl (fun b63 => ?_)
  refine RunL.val (Val.len_sl rfl sl_119) rfl rfl rfl ?_
  refine RunL.val (Val.pure rfl) rfl rfl rfl ?_
  refine RunL.nil ?_
  refine RunE.next ?_
  refine RunC.block ?_
  refine RunC.unroll 2 ?_
  refine RunC.seq ?_
  refine RunC.region ?_
  refine RunL.val (Val.pure rfl) rfl rfl rfl ?_
  refine RunL.nil ?_
  refine RunE.next ?_
  refine RunC.seq ?_
  refine RunC.cond rfl ?_ (fun h => absurd h (by decide))
  intro c3
  clear c3
  refine RunC.skip ?_
  refine RunE.next ?_
  refine RunC.seq ?_
  refine RunC.block ?_
  refine RunC.seq ?_
  refine RunC.region ?_
  refine RunL.val (Val.indexAddr_sl rfl rfl sl_119 (by omega) (by omega)) rfl rfl rfl ?_
  refine RunL.val (Val.load_one rfl (.head _) ty_3 rfl) rfl rfl rfl ?_
  refine RunL.val (Val.pure rfl) rfl rfl rfl ?_
  refine RunL.nil ?_
  refine RunE.next ?_
  refine RunC.region ?_
  iterate 3 refine RunL.val (Val.pure rfl) rfl rfl rfl ?_
  refine RunL.val (Val.mul rfl rfl (IntWalk.i64_in _ ⟨by omega, by omega⟩)) rfl rfl rfl ?_
  refine RunL.val (Val.pure rfl) rfl rfl rfl ?_
  refine RunL.callP (isCall_func rfl ent_47) rfl rfl rfl (fun w hm => ydown_calls _ _ (by omega) (by omega) w) ?_
  refine RunL.new (New.buildSlice (parts := [(0, .tmp 74)]) rfl sl_119 zero_3 rfl rfl rfl rfl) rfl rfl rfl (fun b75 => ?_)
  refine RunL.append (A := [(b75, _), (b63, _), (b51, _), (b10, _), (b9, _), (b37, _), (b5, _), (b6, _)]) (B := _) (x := z76) (ys := _) ap_119 rfl rfl rfl hz76 rfl (fun h => by cases h) (fun w hm => src_blk (hm.at (.head _))) (one_of rfl) (by simp only [maxLen]; omega) (by omega) rfl (fun z76 hz76 => ?_)
  refine RunL.val (Val.pure rfl) rfl rfl rfl ?_
  refine RunL.nil ?_
  refine RunE.block_normal ?_
  refine RunE.next ?_
  refine RunC.region ?_
  refine RunL.val (Val.add rfl rfl (IntWalk.i64_in _ ⟨by decide, by decide⟩)) rfl rfl rfl ?_
  refine RunL.val (Val.pure rfl) rfl rfl rfl ?_
  refine RunL.nil ?_
  refine RunE.keep (Sub.cons (t := 0) rfl (Sub.cons (t := 1) rfl (Sub.cons (t := 5) rfl (Sub.cons (t := 6) rfl (Sub.cons (t := 7) rfl (Sub.cons (t := 9) rfl (Sub.cons (t := 10) rfl (Sub.cons (t := 11) rfl (Sub.cons (t := 13) rfl (Sub.cons (t := 15) rfl (Sub.cons (t := 18) rfl (Sub.cons (t := 19) rfl (Sub.cons (t := 37) rfl (Sub.cons (t := 38) rfl (Sub.cons (t := 39) rfl (Sub.cons (t := 51) rfl (Sub.cons (t := 52) rfl (Sub.cons (t := 53) rfl (Sub.cons (t := 63) rfl (Sub.cons (t := 64) rfl (Sub.cons (t := 65) rfl (Sub.nil _)))))))))))))))))))))) (.cons (.there .here) rfl (.cons (.there .here) rfl (.cons (.there .here) rfl (.cons (.there .here) rfl (.cons (.there .here) rfl (.cons (.there .here) rfl (.cons (.there .here) rfl (Pick.skip (Pick.refl _))))))))) ?_
  refine RunE.rounds ?_
  refine RunC.seq ?_
  refine RunC.region ?_
  refine RunL.val (Val.pure rfl) rfl rfl rfl ?_
  refine RunL.nil ?_
  refine RunE.next ?_
  refine RunC.seq ?_
  refine RunC.cond rfl ?_ (fun h => absurd h (by decide))
  intro c3
  clear c3
  refine RunC.skip ?_
  refine RunE.next ?_
  refine RunC.seq ?_
  refine RunC.block ?_
  refine RunC.seq ?_
  refine RunC.region ?_
  refine RunL.val (Val.indexAddr_sl rfl rfl sl_119 (by omega) (by omega)) rfl rfl rfl ?_
  refine RunL.val (Val.load_one rfl (.head _) ty_3 rfl) rfl rfl rfl ?_
  refine RunL.val (Val.pure rfl) rfl rfl rfl ?_
  refine RunL.nil ?_
  refine RunE.next ?_
  refine RunC.region ?_
  iterate 3 refine RunL.val (Val.pure rfl) rfl rfl rfl ?_
  refine RunL.val (Val.mul rfl rfl (IntWalk.i64_in _ ⟨by omega, by omega⟩)) rfl rfl rfl ?_
  refine RunL.val (Val.pure rfl) rfl rfl rfl ?_
  refine RunL.callP (isCall_func rfl ent_47) rfl rfl rfl (fun w hm => ydown_calls _ _ (by omega) (by omega) w) ?_
  refine RunL.new (New.buildSlice (parts := [(0, .tmp 74)]) rfl sl_119 zero_3 rfl rfl rfl rfl) rfl rfl rfl (fun b75 => ?_)
  refine RunL.append (A := [(b75, _), (b63, _), (b51, _), (b10, _), (b9, _), (b37, _), (b5, _), (b6, _)]) (B := _) (x := z76) (ys := _) ap_119 rfl rfl rfl hz76 rfl (fun h => by cases h) (fun w hm => src_blk (hm.at (.head _))) (one_of rfl) (by simp only [maxLen]; omega) (by omega) rfl (fun z76 hz76 => ?_)
  refine RunL.val (Val.pure rfl) rfl rfl rfl ?_
  refine RunL.nil ?_
  refine RunE.block_normal ?_
  refine RunE.next ?_
  refine RunC.region ?_
  refine RunL.val (Val.add rfl rfl (IntWalk.i64_in _ ⟨by decide, by decide⟩)) rfl rfl rfl ?_
  refine RunL.val (Val.pure rfl) rfl rfl rfl ?_
  refine RunL.nil ?_
  refine RunE.keep (Sub.cons (t := 0) rfl (Sub.cons (t := 1) rfl (Sub.cons (t := 5) rfl (Sub.cons (t := 6) rfl (Sub.cons (t := 7) rfl (Sub.cons (t := 9) rfl (Sub.cons (t := 10) rfl (Sub.cons (t := 11) rfl (Sub.cons (t := 13) rfl (Sub.cons (t := 15) rfl (Sub.cons (t := 18) rfl (Sub.cons (t := 19) rfl (Sub.cons (t := 37) rfl (Sub.cons (t := 38) rfl (Sub.cons (t := 39) rfl (Sub.cons (t := 51) rfl (Sub.cons (t := 52) rfl (Sub.cons (t := 53) rfl (Sub.cons (t := 63) rfl (Sub.cons (t := 64) rfl (Sub.cons (t := 65) rfl (Sub.nil _)))))))))))))))))))))) (.cons (.there .here) rfl (.cons (.there .here) rfl (.cons (.there .here) rfl (.cons (.there .here) rfl (.cons (.there .here) rfl (.cons (.there .here) rfl (.cons (.there .here) rfl (Pick.skip (Pick.refl _))))))))) ?_
  refine RunE.rounds ?_
  refine RunC.seq ?_
  refine RunC.region ?_
  refine RunL.val (Val.pure rfl) rfl rfl rfl ?_
  refine RunL.nil ?_
  refine RunE.next ?_
  refine RunC.seq ?_
  refine RunC.cond rfl (fun h => absurd h (by decide)) ?_
  intro c3
  clear c3
  refine RunC.exit ?_
  refine RunE.pass_exit ?_
  refine RunE.pass_exit ?_
  refine RunE.block_here ?_
  refine RunE.block_normal ?_
  refine RunE.next ?_
  refine RunC.region ?_
  refine RunL.val (Val.add rfl rfl (IntWalk.i64_in _ ⟨by decide, by decide⟩)) rfl rfl rfl ?_
  refine RunL.val (Val.pure rfl) rfl rfl rfl ?_
  refine RunL.nil ?_
  refine RunE.keep (Sub.cons (t := 0) rfl (Sub.cons (t := 1) rfl (Sub.cons (t := 5) rfl (Sub.cons (t := 6) rfl (Sub.cons (t := 7) rfl (Sub.cons (t := 9) rfl (Sub.cons (t := 10) rfl (Sub.cons (t := 11) rfl (Sub.cons (t := 13) rfl (Sub.cons (t := 18) rfl (Sub.cons (t := 19) rfl (Sub.cons (t := 37) rfl (Sub.cons (t := 38) rfl (Sub.cons (t := 39) rfl (Sub.cons (t := 51) rfl (Sub.cons (t := 52) rfl (Sub.cons (t := 53) rfl (Sub.nil _)))))))))))))))))) (.cons (.there .here) rfl (.cons (.there .here) rfl (.cons (.there .here) rfl (.cons (.there .here) rfl (.cons (.there .here) rfl (.cons (.there .here) rfl (Pick.skip (Pick.refl _)))))))) ?_
  refine RunE.rounds ?_
  refine RunC.seq ?_
  refine RunC.region ?_
  refine RunL.val (Val.pure rfl) rfl rfl rfl ?_
  refine RunL.nil ?_
  refine RunE.next ?_
  refine RunC.seq ?_
  refine RunC.cond rfl (fun h => absurd h (by decide)) ?_
  intro c2
  clear c2
  refine RunC.exit ?_
  refine RunE.pass_exit ?_
  refine RunE.pass_exit ?_
  refine RunE.block_here ?_
  refine RunE.block_normal ?_
  refine RunE.next ?_
  refine RunC.region ?_
  refine RunL.val (Val.add rfl rfl (IntWalk.i64_in _ ⟨by decide, by decide⟩)) rfl rfl rfl ?_
  refine RunL.val (Val.pure rfl) rfl rfl rfl ?_
  refine RunL.nil ?_
  refine RunE.keep (Sub.cons (t := 0) rfl (Sub.cons (t := 1) rfl (Sub.cons (t := 5) rfl (Sub.cons (t := 6) rfl (Sub.cons (t := 7) rfl (Sub.cons (t := 9) rfl (Sub.cons (t := 10) rfl (Sub.cons (t := 11) rfl (Sub.cons (t := 18) rfl (Sub.cons (t := 19) rfl (Sub.cons (t := 37) rfl (Sub.cons (t := 38) rfl (Sub.cons (t := 39) rfl (Sub.nil _)))))))))))))) (.cons (.there .here) rfl (.cons (.there .here) rfl (.cons (.there .here) rfl (.cons (.there .here) rfl (.cons (.there .here) rfl (Pick.skip (Pick.refl _))))))) ?_
  refine RunE.rounds ?_
  refine RunC.seq ?_
  refine RunC.region ?_
  refine RunL.val (Val.pure rfl) rfl rfl rfl ?_
  refine RunL.nil ?_
  refine RunE.next ?_
  refine RunC.seq ?_
  refine RunC.cond rfl ?_ (fun h => absurd h (by decide))
  intro c1
  clear c1
  refine RunC.skip ?_
  refine RunE.next ?_
  refine RunC.seq ?_
  refine RunC.block ?_
  refine RunC.seq ?_
  refine RunC.region ?_
  refine RunL.val (Val.indexAddr_sl rfl rfl sl_119 (by omega) (by omega)) rfl rfl rfl ?_
  refine RunL.val (Val.load_one rfl (.tail _ (.tail _ (.head _))) ty_3 rfl) rfl rfl rfl ?_
  refine RunL.val (Val.pure rfl) rfl rfl rfl ?_
  refine RunL.nil ?_
  refine RunE.next ?_
  refine RunC.seq ?_
  refine RunC.draw 11 fol_ (.cons .here rfl (.cons .here rfl (.cons .here rfl (.cons .here rfl (.cons .here rfl .nil))))) ?_
  refine RunA.val (i := 0) rfl (by kernel_rfl) (by kernel_rfl) (Val.pure rfl) rfl rfl rfl (fun _ _ _ h => h) (.cons .here rfl (.cons .here rfl (.cons .here rfl (.cons .here rfl (.cons .here rfl .nil))))) rfl ?_
  refine RunA.val (i := 1) rfl (by kernel_rfl) (by kernel_rfl) (Val.indexAddr_arr rfl rfl arr_72 (by decide) (by decide)) rfl rfl rfl (fun _ _ _ h => h) (.cons .here rfl (.cons .here rfl (.cons .here rfl (.cons .here rfl (.cons .here rfl .nil))))) rfl ?_
  refine RunA.val (i := 2) rfl (by kernel_rfl) (by kernel_rfl) (Val.fieldAddr rfl fld_64_0) rfl rfl rfl (fun _ _ _ h => h) (.cons .here rfl (.cons .here rfl (.cons .here rfl (.cons .here rfl (.cons .here rfl .nil))))) rfl ?_
  refine RunA.val (i := 3) rfl (by kernel_rfl) (by kernel_rfl) (Val.load_one rfl (.tail _ (.tail _ (.tail _ (.head _)))) ty_3 rfl) rfl rfl rfl (fun _ _ _ h => h) (.cons .here rfl (.cons .here rfl (.cons .here rfl (.cons .here rfl (.cons .here rfl .nil))))) rfl ?_
  refine RunA.val (i := 4) rfl (by kernel_rfl) (by kernel_rfl) (Val.pure rfl) rfl rfl rfl (fun _ _ _ h => h) (.cons .here rfl (.cons .here rfl (.cons .here rfl (.cons .here rfl (.cons .here rfl .nil))))) rfl ?_
  refine RunA.val (i := 5) rfl (by kernel_rfl) (by kernel_rfl) (Val.indexAddr_arr rfl rfl arr_72 (by decide) (by decide)) rfl rfl rfl (fun _ _ _ h => h) (.cons .here rfl (.cons .here rfl (.cons .here rfl (.cons .here rfl (.cons .here rfl .nil))))) rfl ?_
  refine RunA.val (i := 6) rfl (by kernel_rfl) (by kernel_rfl) (Val.fieldAddr rfl fld_64_1) rfl rfl rfl (fun _ _ _ h => h) (.cons .here rfl (.cons .here rfl (.cons .here rfl (.cons .here rfl (.cons .here rfl .nil))))) rfl ?_
  refine RunA.val (i := 7) rfl (by kernel_rfl) (by kernel_rfl) (Val.load_one rfl (.tail _ (.tail _ (.tail _ (.head _)))) ty_3 rfl) rfl rfl rfl (fun _ _ _ h => h) (.cons .here rfl (.cons .here rfl (.cons .here rfl (.cons .here rfl (.cons .here rfl .nil))))) rfl ?_
  refine RunA.val (i := 10) rfl (by kernel_rfl) (by kernel_rfl) (Val.pure rfl) rfl rfl rfl (fun _ _ _ h => h) (.cons .here rfl (.cons .here rfl (.cons .here rfl (.cons .here rfl (.cons .here rfl .nil))))) rfl ?_
  refine RunA.one (i := 8) (by kernel_rfl) (by kernel_rfl) ?_
  refine RunI.new rfl (New.buildSlice (parts := [(0, .tmp 46), (1, .tmp 50)]) rfl sl_119 zero_3 rfl rfl rfl rfl) rfl rfl rfl (fun b51 => (RunK.toA (.cons .here rfl (.cons .here rfl (.cons .here rfl (.cons .here rfl (.cons .here rfl (.cons .here rfl .nil)))))) (.cons (.there .here) rfl (.cons (.there .here) rfl (.cons (.there .here) rfl (.cons (.there .here) rfl (.cons (.there .here) rfl .nil))))) rfl ?_))
  refine RunA.val (i := 9) rfl (by kernel_rfl) (by kernel_rfl) (Val.len_sl rfl sl_119) rfl rfl rfl (fun _ _ _ h => h) (.cons .here rfl (.cons .here rfl (.cons .here rfl (.cons .here rfl (.cons .here rfl (.cons .here rfl .nil)))))) rfl ?_
  refine RunA.done (by kernel_rfl) ?_
  refine RunE.next ?_
  refine RunC.block ?_
  refine RunC.unroll 2 ?_
  refine RunC.seq ?_
  refine RunC.region ?_
  refine RunL.val (Val.pure rfl) rfl rfl rfl ?_
  refine RunL.nil ?_
  refine RunE.next ?_
  refine RunC.seq ?_
  refine RunC.cond rfl ?_ (fun h => absurd h (by decide))
  intro c2
  clear c2
  refine RunC.skip ?_
  refine RunE.next ?_
  refine RunC.seq ?_
  refine RunC.block ?_
  refine RunC.seq ?_
  refine RunC.region ?_
  refine RunL.val (Val.indexAddr_sl rfl rfl sl_119 (by omega) (by omega)) rfl rfl rfl ?_
  refine RunL.val (Val.load_one rfl (.head _) ty_3 rfl) rfl rfl rfl ?_
  refine RunL.val (Val.pure rfl) rfl rfl rfl ?_
  refine RunL.nil ?_
  refine RunE.next ?_
  refine RunC.seq ?_
  refine RunC.region ?_
  refine RunL.val (Val.fieldAddr rfl fld_26_0) rfl rfl rfl ?_
  refine RunL.val (Val.fieldAddr rfl fld_23_0) rfl rfl rfl ?_
  refine RunL.val (Val.load_one rfl (.tail _ (.tail _ (.head _))) ty_3 rfl) rfl rfl rfl ?_
  refine RunL.val (Val.fieldAddr rfl fld_26_0) rfl rfl rfl ?_
  refine RunL.val (Val.fieldAddr rfl fld_23_1) rfl rfl rfl ?_
  refine RunL.val (Val.load_one rfl (.tail _ (.tail _ (.head _))) ty_3 rfl) rfl rfl rfl ?_
  refine RunL.new (New.buildSlice (parts := [(0, .tmp 59), (1, .tmp 62)]) rfl sl_119 zero_3 rfl rfl rfl rfl) rfl rfl rfl (fun b63 => ?_)
  refine RunL.val (Val.len_sl rfl sl_119) rfl rfl rfl ?_
  refine RunL.val (Val.pure rfl) rfl rfl rfl ?_
  refine RunL.nil ?_
  refine RunE.next ?_
  refine RunC.block ?_
  refine RunC.unroll 2 ?_
  refine RunC.seq ?_
  refine RunC.region ?_
  refine RunL.val (Val.pure rfl) rfl rfl rfl ?_
  refine RunL.nil ?_
  refine RunE.next ?_
  refine RunC.seq ?_
  refine RunC.cond rfl ?_ (fun h => absurd h (by decide))
  intro c3
  clear c3
  refine RunC.skip ?_
  refine RunE.next ?_
  refine RunC.seq ?_
  refine RunC.block ?_
  refine RunC.seq ?_
  refine RunC.region ?_
  refine RunL.val (Val.indexAddr_sl rfl rfl sl_119 (by omega) (by omega)) rfl rfl rfl ?_
  refine RunL.val (Val.load_one rfl (.head _) ty_3 rfl) rfl rfl rfl ?_
  refine RunL.val (Val.pure rfl) rfl rfl rfl ?_
  refine RunL.nil ?_
  refine RunE.next ?_
  refine RunC.region ?_
  iterate 3 refine RunL.val (Val.pure rfl) rfl rfl rfl ?_
  refine RunL.val (Val.mul rfl rfl (IntWalk.i64_in _ ⟨by omega, by omega⟩)) rfl rfl rfl ?_
  refine RunL.val (Val.pure rfl) rfl rfl rfl ?_
  refine RunL.callP (isCall_func rfl ent_47) rfl rfl rfl (fun w hm => ydown_calls _ _ (by omega) (by omega) w) ?_
  refine RunL.new (New.buildSlice (parts := [(0, .tmp 74)]) rfl sl_119 zero_3 rfl rfl rfl rfl) rfl rfl rfl (fun b75 => ?_)
  refine RunL.append (A := [(b75, _), (b63, _), (b51, _), (b10, _), (b9, _), (b37, _), (b5, _), (b6, _)]) (B := _) (x := z76) (ys := _) ap_119 rfl rfl rfl hz76 rfl (fun h => by cases h) (fun w hm => src_blk (hm.at (.head _))) (one_of rfl) (by simp only [maxLen]; omega) (by omega) rfl (fun z76 hz76 => ?_)
  refine RunL.val (Val.pure rfl) rfl rfl rfl ?_
  refine RunL.nil ?_
  refine RunE.block_normal ?_
  refine RunE.next ?_
  refine RunC.region ?_
  refine RunL.val (Val.add rfl rfl (IntWalk.i64_in _ ⟨by decide, by decide⟩)) rfl rfl rfl ?_
  refine RunL.val (Val.pure rfl) rfl rfl rfl ?_
  refine RunL.nil ?_
  refine RunE.keep (Sub.cons (t := 0) rfl (Sub.cons (t := 1) rfl (Sub.cons (t := 5) rfl (Sub.cons (t := 6) rfl (Sub.cons (t := 7) rfl (Sub.cons (t := 9) rfl (Sub.cons (t := 10) rfl (Sub.cons (t := 11) rfl (Sub.cons (t := 13) rfl (Sub.cons (t := 15) rfl (Sub.cons (t := 18) rfl (Sub.cons (t := 19) rfl (Sub.cons (t := 37) rfl (Sub.cons (t := 38) rfl (Sub.cons (t := 39) rfl (Sub.cons (t := 51) rfl (Sub.cons (t := 52) rfl (Sub.cons (t := 53) rfl (Sub.cons (t := 63) rfl (Sub.cons (t := 64) rfl (Sub.cons (t := 65) rfl (Sub.nil _)))))))))))))))))))))) (.cons (.there .here) rfl (.cons (.there .here) rfl (.cons (.there .here) rfl (.cons (.there .here) rfl (.cons (.there .here) rfl (.cons (.there .here) rfl (.cons (.there .here) rfl (Pick.skip (Pick.refl _))))))))) ?_
  refine RunE.rounds ?_
  refine RunC.seq ?_
  refine RunC.region ?_
  refine RunL.val (Val.pure rfl) rfl rfl rfl ?_
  refine RunL.nil ?_
  refine RunE.next ?_
  refine RunC.seq ?_
  refine RunC.cond rfl ?_ (fun h => absurd h (by decide))
  intro c3
  clear c3
  refine RunC.skip ?_
  refine RunE.next ?_
  refine RunC.seq ?_
  refine RunC.block ?_
  refine RunC.seq ?_
  refine RunC.region ?_
  refine RunL.val (Val.indexAddr_sl rfl rfl sl_119 (by omega) (by omega)) rfl rfl rfl ?_
  refine RunL.val (Val.load_one rfl (.head _) ty_3 rfl) rfl rfl rfl ?_
  refine RunL.val (Val.pure rfl) rfl rfl rfl ?_
  refine RunL.nil ?_
  refine RunE.next ?_
  refine RunC.region ?_
  iterate 3 refine RunL.val (Val.pure rfl) rfl rfl rfl ?_
  refine RunL.val (Val.mul rfl rfl (IntWalk.i64_in _ ⟨by omega, by omega⟩)) rfl rfl rfl ?_
  refine RunL.val (Val.pure rfl) rfl rfl rfl ?_
  refine RunL.callP (isCall_func rfl ent_47) rfl rfl rfl (fun w hm => ydown_calls _ _ (by omega) (by omega) w) ?_
  refine RunL.new (New.buildSlice (parts := [(0, .tmp 74)]) rfl sl_119 zero_3 rfl rfl rfl rfl) rfl rfl rfl (fun b75 => ?_)
  refine RunL.append (A := [(b75, _), (b63, _), (b51, _), (b10, _), (b9, _), (b37, _), (b5, _), (b6, _)]) (B := _) (x := z76) (ys := _) ap_119 rfl rfl rfl hz76 rfl (fun h => by cases h) (fun w hm => src_blk (hm.at (.head _))) (one_of rfl) (by simp only [maxLen]; omega) (by omega) rfl (fun z76 hz76 => ?_)
  refine RunL.val (Val.pure rfl) rfl rfl rfl ?_
  refine RunL.nil ?_
  refine RunE.block_normal ?_
  refine RunE.next ?_
  refine RunC.region ?_
  refine RunL.val (Val.add rfl rfl (IntWalk.i64_in _ ⟨by decide, by decide⟩)) rfl rfl rfl ?_
  refine RunL.val (Val.pure rfl) rfl rfl rfl ?_
  refine RunL.nil ?_
  refine RunE.keep (Sub.cons (t := 0) rfl (Sub.cons (t := 1) rfl (Sub.cons (t := 5) rfl (Sub.cons (t := 6) rfl (Sub.cons (t := 7) rfl (Sub.cons (t := 9) rfl (Sub.cons (t := 10) rfl (Sub.cons (t := 11) rfl (Sub.cons (t := 13) rfl (Sub.cons (t := 15) rfl (Sub.cons (t := 18) rfl (Sub.cons (t := 19) rfl (Sub.cons (t := 37) rfl (Sub.cons (t := 38) rfl (Sub.cons (t := 39) rfl (Sub.cons (t := 51) rfl (Sub.cons (t := 52) rfl (Sub.cons (t := 53) rfl (Sub.cons (t := 63) rfl (Sub.cons (t := 64) rfl (Sub.cons (t := 65) rfl (Sub.nil _)))))))))))))))))))))) (.cons (.there .here) rfl (.cons (.there .here) rfl (.cons (.there .here) rfl (.cons (.there .here) rfl (.cons (.there .here) rfl (.cons (.there .here) rfl (.cons (.there .here) rfl (Pick.skip (Pick.refl _))))))))) ?_
  refine RunE.rounds ?_
  refine RunC.seq ?_
  refine RunC.region ?_
  refine RunL.val (Val.pure rfl) rfl rfl rfl ?_
  refine RunL.nil ?_
  refine RunE.next ?_
  refine RunC.seq ?_
  refine RunC.cond rfl (fun h => absurd h (by decide)) ?_
  intro c3
  clear c3
  refine RunC.exit ?_
  refine RunE.pass_exit ?_
  refine RunE.pass_exit ?_
  refine RunE.block_here ?_
  refine RunE.block_normal ?_
  refine RunE.next ?_
  refine RunC.region ?_
  refine RunL.val (Val.add rfl rfl (IntWalk.i64_in _ ⟨by decide, by decide⟩)) rfl rfl rfl ?_
  refine RunL.val (Val.pure rfl) rfl rfl rfl ?_
  refine RunL.nil ?_
  refine RunE.keep (Sub.cons (t := 0) rfl (Sub.cons (t := 1) rfl (Sub.cons (t := 5) rfl (Sub.cons (t := 6) rfl (Sub.cons (t := 7) rfl (Sub.cons (t := 9) rfl (Sub.cons (t := 10) rfl (Sub.cons (t := 11) rfl (Sub.cons (t := 13) rfl (Sub.cons (t := 18) rfl (Sub.cons (t := 19) rfl (Sub.cons (t := 37) rfl (Sub.cons (t := 38) rfl (Sub.cons (t := 39) rfl (Sub.cons (t := 51) rfl (Sub.cons (t := 52) rfl (Sub.cons (t := 53) rfl (Sub.nil _)))))))))))))))))) (.cons (.there .here) rfl (.cons (.there .here) rfl (.cons (.there .here) rfl (.cons (.there .here) rfl (.cons (.there .here) rfl (.cons (.there .here) rfl (Pick.skip (Pick.refl _)))))))) ?_
  refine RunE.rounds ?_
  refine RunC.seq ?_
  refine RunC.region ?_
  refine RunL.val (Val.pure rfl) rfl rfl rfl ?_
  refine RunL.nil ?_
  refine RunE.next ?_
  refine RunC.seq ?_
  refine RunC.cond rfl ?_ (fun h => absurd h (by decide))
  intro c2
  clear c2
  refine RunC.skip ?_
  refine RunE.next ?_
  refine RunC.seq ?_
  refine RunC.block ?_
  refine RunC.seq ?_
  refine RunC.region ?_
  refine RunL.val (Val.indexAddr_sl rfl rfl sl_119 (by omega) (by omega)) rfl rfl rfl ?_
  refine RunL.val (Val.load_one rfl (.head _) ty_3 rfl) rfl rfl rfl ?_
  refine RunL.val (Val.pure rfl) rfl rfl rfl ?_
  refine RunL.nil ?_
  refine RunE.next ?_
  refine RunC.seq ?_
  refine RunC.region ?_
  refine RunL.val (Val.fieldAddr rfl fld_26_0) rfl rfl rfl ?_
  refine RunL.val (Val.fieldAddr rfl fld_23_0) rfl rfl rfl ?_
  refine RunL.val (Val.load_one rfl (.tail _ (.tail _ (.head _))) ty_3 rfl) rfl rfl rfl ?_
  refine RunL.val (Val.fieldAddr rfl fld_26_0) rfl rfl rfl ?_
  refine RunL.val (Val.fieldAddr rfl fld_23_1) rfl rfl rfl ?_
  refine RunL.val (Val.load_one rfl (.tail _ (.tail _ (.head _))) ty_3 rfl) rfl rfl rfl ?_
  refine RunL.new (New.buildSlice (parts := [(0, .tmp 59), (1, .tmp 62)]) rfl sl_119 zero_3 rfl rfl rfl rfl) rfl rfl rfl (fun b63 => ?_)
  refine RunL.val (Val.len_sl rfl sl_119) rfl rfl rfl ?_
  refine RunL.val (Val.pure rfl) rfl rfl rfl ?_
  refine RunL.nil ?_
  refine RunE.next ?_
  refine RunC.block ?_
  refine RunC.unroll 2 ?_
  refine RunC.seq ?_
  refine RunC.region ?_
  refine RunL.val (Val.pure rfl) rfl rfl rfl ?_
  refine RunL.nil ?_
  refine RunE.next ?_
  refine RunC.seq ?_
  refine RunC.cond rfl ?_ (fun h => absurd h (by decide))
  intro c3
  clear c3
  refine RunC.skip ?_
  refine RunE.next ?_
  refine RunC.seq ?_
  refine RunC.block ?_
  refine RunC.seq ?_
  refine RunC.region ?_
  refine RunL.val (Val.indexAddr_sl rfl rfl sl_119 (by omega) (by omega)) rfl rfl rfl ?_
  refine RunL.val (Val.load_one rfl (.head _) ty_3 rfl) rfl rfl rfl ?_
  refine RunL.val (Val.pure rfl) rfl rfl rfl ?_
  refine RunL.nil ?_
  refine RunE.next ?_
  refine RunC.region ?_
  iterate 3 refine RunL.val (Val.pure rfl) rfl rfl rfl ?_
  refine RunL.val (Val.mul rfl rfl (IntWalk.i64_in _ ⟨by omega, by omega⟩)) rfl rfl rfl ?_
  refine RunL.val (Val.pure rfl) rfl rfl rfl ?_
  refine RunL.callP (isCall_func rfl ent_47) rfl rfl rfl (fun w hm => ydown_calls _ _ (by omega) (by omega) w) ?_
  refine RunL.new (New.buildSlice (parts := [(0, .tmp 74)]) rfl sl_119 zero_3 rfl rfl rfl rfl) rfl rfl rfl (fun b75 => ?_)
  refine RunL.append (A := [(b75, _), (b63, _), (b51, _), (b10, _), (b9, _), (b37, _), (b5, _), (b6, _)]) (B := _) (x := z76) (ys := _) ap_119 rfl rfl rfl hz76 rfl (fun h => by cases h) (fun w hm => src_blk (hm.at (.head _))) (one_of rfl) (by simp only [maxLen]; omega) (by omega) rfl (fun z76 hz76 => ?_)
  refine RunL.val (Val.pure rfl) rfl rfl rfl ?_
  refine RunL.nil ?_
  refine RunE.block_normal ?_
  refine RunE.next ?_
  refine RunC.region ?_
  refine RunL.val (Val.add rfl rfl (IntWalk.i64_in _ ⟨by decide, by decide⟩)) rfl rfl rfl ?_
  refine RunL.val (Val.pure rfl) rfl rfl rfl ?_
  refine RunL.nil ?_
  refine RunE.keep (Sub.cons (t := 0) rfl (Sub.cons (t := 1) rfl (Sub.cons (t := 5) rfl (Sub.cons (t := 6) rfl (Sub.cons (t := 7) rfl (Sub.cons (t := 9) rfl (Sub.cons (t := 10) rfl (Sub.cons (t := 11) rfl (Sub.cons (t := 13) rfl (Sub.cons (t := 15) rfl (Sub.cons (t := 18) rfl (Sub.cons (t := 19) rfl (Sub.cons (t := 37) rfl (Sub.cons (t := 38) rfl (Sub.cons (t := 39) rfl (Sub.cons (t := 51) rfl (Sub.cons (t := 52) rfl (Sub.cons (t := 53) rfl (Sub.cons (t := 63) rfl (Sub.cons (t := 64) rfl (Sub.cons (t := 65) rfl (Sub.nil _)))))))))))))))))))))) (.cons (.there .here) rfl (.cons (.there .here) rfl (.cons (.there .here) rfl (.cons (.there .here) rfl (.cons (.there .here) rfl (.cons (.there .here) rfl (.cons (.there .here) rfl (Pick.skip (Pick.refl _))))))))) ?_
  refine RunE.rounds ?_
  refine RunC.seq ?_
  refine RunC.region ?_
  refine RunL.val (Val.pure rfl) rfl rfl rfl ?_
  refine RunL.nil ?_
  refine RunE.next ?_
  refine RunC.seq ?_
  refine RunC.cond rfl ?_ (fun h => absurd h (by decide))
  intro c3
  clear c3
  refine RunC.skip ?_
  refine RunE.next ?_
  refine RunC.seq ?_
  refine RunC.block ?_
  refine RunC.seq ?_
  refine RunC.region ?_
  refine RunL.val (Val.indexAddr_sl rfl rfl sl_119 (by omega) (by omega)) rfl rfl rfl ?_
  refine RunL.val (Val.load_one rfl (.head _) ty_3 rfl) rfl rfl rfl ?_
  refine RunL.val (Val.pure rfl) rfl rfl rfl ?_
  refine RunL.nil ?_
  refine RunE.next ?_
  refine RunC.region ?_
  iterate 3 refine RunL.val (Val.pure rfl) rfl rfl rfl ?_
  refine RunL.val (Val.mul rfl rfl (IntWalk.i64_in _ ⟨by omega, by omega⟩)) rfl rfl rfl ?_
  refine RunL.val (Val.pure rfl) rfl rfl rfl ?_
  refine RunL.callP (isCall_func rfl ent_47) rfl rfl rfl (fun w hm => ydown_calls _ _ (by omega) (by omega) w) ?_
  refine RunL.new (New.buildSlice (parts := [(0, .tmp 74)]) rfl sl_119 zero_3 rfl rfl rfl rfl) rfl rfl rfl (fun b75 => ?_)
  refine RunL.append (A := [(b75, _), (b63, _), (b51, _), (b10, _), (b9, _), (b37, _), (b5, _), (b6, _)]) (B := _) (x := z76) (ys := _) ap_119 rfl rfl rfl hz76 rfl (fun h => by cases h) (fun w hm => src_blk (hm.at (.head _))) (one_of rfl) (by simp only [maxLen]; omega) (by omega) rfl (fun z76 hz76 => ?_)
  refine RunL.val (Val.pure rfl) rfl rfl rfl ?_
  refine RunL.nil ?_
  refine RunE.block_normal ?_
  refine RunE.next ?_
  refine RunC.region ?_
  refine RunL.val (Val.add rfl rfl (IntWalk.i64_in _ ⟨by decide, by decide⟩)) rfl rfl rfl ?_
  refine RunL.val (Val.pure rfl) rfl rfl rfl ?_
  refine RunL.nil ?_
  refine RunE.keep (Sub.cons (t := 0) rfl (Sub.cons (t := 1) rfl (Sub.cons (t := 5) rfl (Sub.cons (t := 6) rfl (Sub.cons (t := 7) rfl (Sub.cons (t := 9) rfl (Sub.cons (t := 10) rfl (Sub.cons (t := 11) rfl (Sub.cons (t := 13) rfl (Sub.cons (t := 15) rfl (Sub.cons (t := 18) rfl (Sub.cons (t := 19) rfl (Sub.cons (t := 37) rfl (Sub.cons (t := 38) rfl (Sub.cons (t := 39) rfl (Sub.cons (t := 51) rfl (Sub.cons (t := 52) rfl (Sub.cons (t := 53) rfl (Sub.cons (t := 63) rfl (Sub.cons (t := 64) rfl (Sub.cons (t := 65) rfl (Sub.nil _)))))))))))))))))))))) (.cons (.there .here) rfl (.cons (.there .here) rfl (.cons (.there .here) rfl (.cons (.there .here) rfl (.cons (.there .here) rfl (.cons (.there .here) rfl (.cons (.there .here) rfl (Pick.skip (Pick.refl _))))))))) ?_
  refine RunE.rounds ?_
  refine RunC.seq ?_
  refine RunC.region ?_
  refine RunL.val (Val.pure rfl) rfl rfl rfl ?_
  refine RunL.nil ?_
  refine RunE.next ?_
  refine RunC.seq ?_
  refine RunC.cond rfl (fun h => absurd h (by decide)) ?_
  intro c3
  clear c3
  refine RunC.exit ?_
  refine RunE.pass_exit ?_
  refine RunE.pass_exit ?_
  refine RunE.block_here ?_
  refine RunE.block_normal ?_
  refine RunE.next ?_
  refine RunC.region ?_
  refine RunL.val (Val.add rfl rfl (IntWalk.i64_in _ ⟨by decide, by decide⟩)) rfl rfl rfl ?_
  refine RunL.val (Val.pure rfl) rfl rfl rfl ?_
  refine RunL.nil ?_
  refine RunE.keep (Sub.cons (t := 0) rfl (Sub.cons (t := 1) rfl (Sub.cons (t := 5) rfl (Sub.cons (t := 6) rfl (Sub.cons (t := 7) rfl (Sub.cons (t := 9) rfl (Sub.cons (t := 10) rfl (Sub.cons (t := 11) rfl (Sub.cons (t := 13) rfl (Sub.cons (t := 18) rfl (Sub.cons (t := 19) rfl (Sub.cons (t := 37) rfl (Sub.cons (t := 38) rfl (Sub.cons (t := 39) rfl (Sub.cons (t := 51) rfl (Sub.cons (t := 52) rfl (Sub.cons (t := 53) rfl (Sub.nil _)))))))))))))))))) (.cons (.there .here) rfl (.cons (.there .here) rfl (.cons (.there .here) rfl (.cons (.there .here) rfl (.cons (.there .here) rfl (.cons (.there .here) rfl (Pick.skip (Pick.refl _)))))))) ?_
  refine RunE.rounds ?_
  refine RunC.seq ?_
  refine RunC.region ?_
  refine RunL.val (Val.pure rfl) rfl rfl rfl ?_
  refine RunL.nil ?_
  refine RunE.next ?_
  refine RunC.seq ?_
  refine RunC.cond rfl (fun h => absurd h (by decide)) ?_
  intro c2
  clear c2
  refine RunC.exit ?_
  refine RunE.pass_exit ?_
  refine RunE.pass_exit ?_
  refine RunE.block_here ?_
  refine RunE.block_normal ?_
  refine RunE.next ?_
  refine RunC.region ?_
  refine RunL.val (Val.add rfl rfl (IntWalk.i64_in _ ⟨by decide, by decide⟩)) rfl rfl rfl ?_
  refine RunL.val (Val.pure rfl) rfl rfl rfl ?_
  refine RunL.nil ?_
  refine RunE.keep (Sub.cons (t := 0) rfl (Sub.cons (t := 1) rfl (Sub.cons (t := 5) rfl (Sub.cons (t := 6) rfl (Sub.cons (t := 7) rfl (Sub.cons (t := 9) rfl (Sub.cons (t := 10) rfl (Sub.cons (t := 11) rfl (Sub.cons (t := 18) rfl (Sub.cons (t := 19) rfl (Sub.cons (t := 37) rfl (Sub.cons (t := 38) rfl (Sub.cons (t := 39) rfl (Sub.nil _)))))))))))))) (.cons (.there .here) rfl (.cons (.there .here) rfl (.cons (.there .here) rfl (.cons (.there .here) rfl (.cons (.there .here) rfl (Pick.skip (Pick.refl _))))))) ?_
  refine RunE.rounds ?_
  refine RunC.seq ?_
  refine RunC.region ?_
  refine RunL.val (Val.pure rfl) rfl rfl rfl ?_
  refine RunL.nil ?_
  refine RunE.next ?_
  refine RunC.seq ?_
  refine RunC.cond rfl (fun h => absurd h (by decide)) ?_
  intro c1
  clear c1
  refine RunC.exit ?_
  refine RunE.pass_exit ?_
  refine RunE.pass_exit ?_
  refine RunE.block_here ?_
  refine RunE.next ?_
  obtain ⟨bz76, cz76, rz76, rfl, lz761, lz762, lz763⟩ := hz76.has (by decide)
  refine RunC.draw 14 fol_ (.cons .here rfl (.cons .here rfl (.cons .here rfl (.cons .here rfl (.cons (.there .here) rfl .nil))))) ?_
  refine RunA.val (i := 0) rfl (by kernel_rfl) (by kernel_rfl) (Val.pure rfl) rfl rfl rfl (fun _ _ _ h => h) (.cons .here rfl (.cons .here rfl (.cons .here rfl (.cons .here rfl (.cons (.there .here) rfl .nil))))) rfl ?_
  refine RunA.val (i := 1) rfl (by kernel_rfl) (by kernel_rfl) (Val.pure rfl) rfl rfl rfl (fun _ _ _ h => h) (.cons .here rfl (.cons .here rfl (.cons .here rfl (.cons .here rfl (.cons (.there .here) rfl .nil))))) rfl ?_
  refine RunA.val (i := 2) rfl (by kernel_rfl) (by kernel_rfl) (Val.pure rfl) rfl rfl rfl (fun _ _ _ h => h) (.cons .here rfl (.cons .here rfl (.cons .here rfl (.cons .here rfl (.cons (.there .here) rfl .nil))))) rfl ?_
  refine RunA.val (i := 3) rfl (by kernel_rfl) (by kernel_rfl) (Val.indexAddr_sl rfl rfl sl_119 (by omega) (by omega)) rfl rfl rfl (fun _ _ _ h => h) (.cons .here rfl (.cons .here rfl (.cons .here rfl (.cons .here rfl (.cons (.there .here) rfl .nil))))) rfl ?_
  refine RunA.val (i := 4) rfl (by kernel_rfl) (by kernel_rfl) (Val.load_one rfl (.tail _ (.tail _ (.tail _ (.tail _ (.head _))))) ty_3 rfl) rfl rfl rfl (fun _ _ _ h => h) (.cons .here rfl (.cons .here rfl (.cons .here rfl (.cons .here rfl (.cons (.there .here) rfl .nil))))) rfl ?_
  refine RunA.val (i := 5) rfl (by kernel_rfl) (by kernel_rfl) (Val.pure rfl) rfl rfl rfl (fun _ _ _ h => h) (.cons .here rfl (.cons .here rfl (.cons .here rfl (.cons .here rfl (.cons (.there .here) rfl .nil))))) rfl ?_
  refine RunA.val (i := 6) rfl (by kernel_rfl) (by kernel_rfl) (Val.sliceFrom rfl rfl sl_119 rfl (by decide) (by omega) (by omega)) rfl rfl rfl (fun _ _ _ h => h) (.cons .here rfl (.cons .here rfl (.cons .here rfl (.cons .here rfl (.cons (.there .here) rfl .nil))))) rfl ?_
  refine RunA.one (i := 7) (by kernel_rfl) (by kernel_rfl) ?_
  refine RunI.callP rfl (isCall_func rfl ent_77) rfl rfl rfl (fun w hm => yends_calls _ (htL g.s u z.2) _ _ _ _ w (sl_rowAt _ (hm.at (.tail _ (.tail _ (.tail _ (.tail _ (.tail _ (.head _))))))) rfl) (by simp [htL])) (RunK.toA (.cons .here rfl (.cons .here rfl (.cons .here rfl (.cons .here rfl (.cons (.there .here) rfl .nil))))) (.cons .here rfl (.cons .here rfl (.cons .here rfl (.cons .here rfl (.cons .here rfl .nil))))) rfl ?_)
  refine RunA.val (i := 8) rfl (by kernel_rfl) (by kernel_rfl) (Val.pure rfl) rfl rfl rfl (fun _ _ _ h => h) (.cons .here rfl (.cons .here rfl (.cons .here rfl (.cons .here rfl (.cons (.there .here) rfl .nil))))) rfl ?_
  refine RunA.val (i := 9) rfl (by kernel_rfl) (by kernel_rfl) (Val.pure rfl) rfl rfl rfl (fun _ _ _ h => h) (.cons .here rfl (.cons .here rfl (.cons .here rfl (.cons .here rfl (.cons (.there .here) rfl .nil))))) rfl ?_
  refine RunA.val (i := 10) rfl (by kernel_rfl) (by kernel_rfl) (Val.pure rfl) rfl rfl rfl (fun _ _ _ h => h) (.cons .here rfl (.cons .here rfl (.cons .here rfl (.cons .here rfl (.cons (.there .here) rfl .nil))))) rfl ?_
  refine RunA.val (i := 11) rfl (by kernel_rfl) (by kernel_rfl) (Val.indexAddr_arr rfl rfl arr_72 (by decide) (by decide)) rfl rfl rfl (fun _ _ _ h => h) (.cons .here rfl (.cons .here rfl (.cons .here rfl (.cons .here rfl (.cons (.there .here) rfl .nil))))) rfl ?_
  refine RunA.val (i := 12) rfl (by kernel_rfl) (by kernel_rfl) (Val.fieldAddr rfl fld_64_0) rfl rfl rfl (fun _ _ _ h => h) (.cons .here rfl (.cons .here rfl (.cons .here rfl (.cons .here rfl (.cons (.there .here) rfl .nil))))) rfl ?_
  refine RunA.one (i := 13) (by kernel_rfl) (by kernel_rfl) ?_
  refine RunI.sto rfl (Sto.store rfl rfl (.there (.there (.there (.there .here)))) ty_3 rfl rfl) rfl rfl (RunK.toA (.cons .here rfl (.cons .here rfl (.cons .here rfl (.cons .here rfl (.cons (.there .here) rfl .nil))))) (.cons .here rfl (.cons .here rfl (.cons .here rfl (.cons .here rfl (.cons .here rfl .nil))))) rfl ?_)
  refine RunA.toB (by kernel_rfl) ?_
  refine RunB.one (i := 14) (by kernel_rfl) ?_
  refine RunI.val rfl (Val.indexAddr_arr rfl rfl arr_72 (by decide) (by decide)) rfl rfl rfl (RunK.toB ?_)
  refine RunB.one (i := 15) (by kernel_rfl) ?_
  refine RunI.val rfl (Val.fieldAddr rfl fld_64_1) rfl rfl rfl (RunK.toB ?_)
  refine RunB.one (i := 16) (by kernel_rfl) ?_
  refine RunI.sto rfl (Sto.store rfl rfl (.there (.there (.there (.there .here)))) ty_3 rfl rfl) rfl rfl (RunK.toB ?_)
  refine RunB.done (by kernel_rfl) ?_
  refine RunE.block_normal ?_
  refine RunE.next ?_
  refine RunC.region ?_
  refine RunL.val (Val.add rfl rfl (IntWalk.i64_in _ ⟨by decide, by decide⟩)) rfl rfl rfl ?_
  refine RunL.val (Val.pure rfl) rfl rfl rfl ?_
  refine RunL.nil ?_
  refine RunE.keep (Sub.cons (t := 0) rfl (Sub.cons (t := 1) rfl (Sub.cons (t := 5) rfl (Sub.cons (t := 6) rfl (Sub.cons (t := 18) rfl (Sub.cons (t := 19) rfl (Sub.nil _))))))) (.cons (.there (.there (.there .here))) rfl (.cons (.there (.there (.there .here))) rfl .nil)) ?_
  refine RunE.rounds ?_
  refine RunC.seq ?_
  refine RunC.region ?_
  refine RunL.val (Val.pure rfl) rfl rfl rfl ?_
  refine RunL.nil ?_
  refine RunE.next ?_
  refine RunC.seq ?_
  refine RunC.cond rfl (fun h => absurd h (by decide)) ?_
  intro c0
  clear c0
  refine RunC.exit ?_
  refine RunE.pass_exit ?_
  refine RunE.pass_exit ?_
  refine RunE.block_here ?_
  refine RunE.next ?_
  refine RunC.seq ?_
  refine RunC.region ?_
  refine RunL.val (Val.load_agg rfl (.tail _ (.head _)) ty_72 rfl) rfl rfl rfl ?_
  refine RunL.sto (Sto.store rfl rfl (.there .here) ty_72 rfl rfl) rfl rfl ?_
  refine RunL.nil ?_
  refine RunE.next ?_
  refine RunC.ret ?_
  exact RunE.retP (.r1 rfl (.agg rfl (.tail _ (.head _)) ty_72 rfl)) (by simp [z2v, z2c, htP])
end Go.Proofs.Ytjijeeadmhpfcaa
/- Walks of package years: what is asked of a thing. -/
set_option linter.unusedSimpArgs false
set_option linter.unusedVariables false
namespace Go.Proofs.Ytjijeeadmhpfcaa
open Go Go.Eng Go.Pw1

def Zok (z : Z2) : Prop := (0 ≤ z.1.1 ∧ z.1.1 ≤ 1100000000) ∧ (0 ≤ z.1.2 ∧ z.1.2 ≤ 1100000000) ∧ (0 ≤ z.2.1 ∧ z.2.1 ≤ 1100000000) ∧ (0 ≤ z.2.2 ∧ z.2.2 ≤ 1100000000)
theorem farG_ok (g : Gl) (n : Int) : Zok (farG g n) := by
  have h1 := distX_rng g.f n
  have h2 := distX_rng g.s n
  exact ⟨⟨h1.1, h1.2.1⟩, ⟨h1.2.2.1, h1.2.2.2⟩, ⟨h2.1, h2.2.1⟩, ⟨h2.2.2.1, h2.2.2.2⟩⟩
theorem Zok.mul {z : Z2} (h : Zok z) : ∀ x y : Int, (-4000 ≤ x ∧ x ≤ 4000) → y ∈ [z.1.1, z.1.2, z.2.1, z.2.2] → -5000000000000 ≤ x * y ∧ x * y ≤ 5000000000000 := by
  intro x y hx hy
  obtain ⟨h1, h2, h3, h4⟩ := h
  have hy2 : 0 ≤ y ∧ y ≤ 1100000000 := by
    simp only [List.mem_cons, List.not_mem_nil, or_false] at hy
    rcases hy with rfl | rfl | rfl | rfl <;> assumption
  have m1 := Int.mul_le_mul_of_nonneg_right hx.1 hy2.1
  have m2 := Int.mul_le_mul_of_nonneg_right hx.2 hy2.1
  omega
theorem fold_bd {A : Int} : ∀ (l : List Int) (x : Int), (-A ≤ x ∧ x ≤ A) → (∀ y ∈ l, -A ≤ y ∧ y ≤ A) → (-A ≤ minL x l ∧ minL x l ≤ A) ∧ -A ≤ maxL x l ∧ maxL x l ≤ A
  | [], x, hx, _ => ⟨hx, hx⟩
  | y :: l, x, hx, h => by
    have hy := h y (by simp)
    have h1 := fold_bd l (min x y) (by omega) (fun u hu => h u (by simp [hu]))
    have h2 := fold_bd l (max x y) (by omega) (fun u hu => h u (by simp [hu]))
    exact ⟨h1.1, h2.2⟩
theorem htP_bd {p : Pr} (hp : p.Ok) {t : Th} (ht : t ∈ p.things) {z : Int × Int} (hz : ∀ x y : Int, (-4000 ≤ x ∧ x ≤ 4000) → y ∈ [z.1, z.2] → -5000000000000 ≤ x * y ∧ x * y ≤ 5000000000000) :
    (-5000000000000 ≤ (htP p t z).1 ∧ (htP p t z).1 ≤ 5000000000000) ∧ -5000000000000 ≤ (htP p t z).2 ∧ (htP p t z).2 ≤ 5000000000000 := by
  have f1 := hp.f1
  have f2 := hp.f2
  obtain ⟨h3, h4, h5⟩ := (hp.ths _ ht).1.2.1
  have e1 := hz t.ly.lo z.1 (by omega) (by simp)
  have e2 := hz t.ly.lo z.2 (by omega) (by simp)
  have e3 := hz t.ly.hi z.1 (by omega) (by simp)
  have e4 := hz t.ly.hi z.2 (by omega) (by simp)
  refine fold_bd _ _ (ediv_bd (by omega) e1) (fun y hy => ?_)
  simp only [htL, List.mem_cons, List.not_mem_nil, or_false] at hy
  rcases hy with rfl | rfl | rfl | rfl | rfl | rfl | rfl <;> exact ediv_bd (by omega) (by assumption)
theorem seen_in {g : Gl} {n : Int} (h : seenG g n = true) : g.f.Ok ∧ g.s.Ok ∧ ∃ k : Nat, n = k ∧ k < g.f.things.length ∧ k < g.s.things.length := by
  simp only [seenG, Bool.and_eq_true, decide_eq_true_eq] at h
  obtain ⟨h1, k, rfl, hk⟩ := dist_in h.1
  obtain ⟨h2, k2, hk2, hk3⟩ := dist_in h.2
  obtain rfl : k = k2 := by omega
  exact ⟨h1, h2, k, rfl, hk, hk3⟩
theorem sank_bd {g : Gl} {n : Int} (h : seenG g n = true) {z : Z2} (hz : Zok z) : ((-5000000000000 ≤ (htG g n z).1.1 ∧ (htG g n z).1.1 ≤ 5000000000000) ∧ -5000000000000 ≤ (htG g n z).1.2 ∧ (htG g n z).1.2 ≤ 5000000000000) ∧ (-5000000000000 ≤ (htG g n z).2.1 ∧ (htG g n z).2.1 ≤ 5000000000000) ∧ -5000000000000 ≤ (htG g n z).2.2 ∧ (htG g n z).2.2 ≤ 5000000000000 := by
  obtain ⟨hpf, hps, k, rfl, h1, h2⟩ := seen_in h
  have hm := hz.mul
  rw [htG, thingAt_eq h1 rfl, thingAt_eq h2 rfl]
  exact ⟨htP_bd hpf (List.getElem_mem h1) (fun x y hx hy => hm x y hx (by simp only [List.mem_cons, List.not_mem_nil, or_false] at hy; rcases hy with rfl | rfl <;> simp)), htP_bd hps (List.getElem_mem h2) (fun x y hx hy => hm x y hx (by simp only [List.mem_cons, List.not_mem_nil, or_false] at hy; rcases hy with rfl | rfl <;> simp))⟩
theorem yanswerM_calls (n : Int) (b : Nat) (z : Z2) (hz : Zok z) (W : World) : Calls Try.prog 125 #[.agg #[], .pointer (some ⟨b, 0, none⟩), .int .i64 n, z2v z] W (Pure (b2v (movedZ z)) W) := by
  obtain ⟨h1, h2, h3, h4⟩ := hz
  refine calls_start Try.func125 rfl rfl ?_
  refine RunC.seq ?_
  refine RunC.region ?_
  refine RunL.new (New.box rfl) rfl rfl rfl (fun b4 => ?_)
  refine RunL.new (New.box rfl) rfl rfl rfl (fun b7 => ?_)
  refine RunL.new (New.alloc zero_64) rfl rfl rfl (fun b8 => ?_)
  refine RunL.nil ?_
  refine RunE.next ?_
  refine RunC.seq ?_
  refine RunC.region ?_
  refine RunL.val (Val.indexAddr_arr rfl rfl arr_72 (by decide) (by decide)) rfl rfl rfl ?_
  refine RunL.val (Val.load_agg rfl (.tail _ (.head _)) ty_64 rfl) rfl rfl rfl ?_
  refine RunL.val (Val.indexAddr_arr rfl rfl arr_72 (by decide) (by decide)) rfl rfl rfl ?_
  refine RunL.val (Val.load_agg rfl (.tail _ (.head _)) ty_64 rfl) rfl rfl rfl ?_
  refine RunL.callP (isCall_func rfl ent_57) rfl rfl rfl (fun w hm => yless_calls z.2 z.1 (by omega) w) ?_
  refine RunL.sto (Sto.store rfl rfl .here ty_64 rfl rfl) rfl rfl ?_
  refine RunL.nil ?_
  refine RunE.next ?_
  refine RunC.ret ?_
  exact RunE.retP (.r1 rfl (.agg rfl (.head _) ty_64 rfl)) (by first | rfl | simp)
theorem yheightsG_calls (g : Gl) (a : Ga) (n : Int) (z : Z2) (b : Nat) (W : World) (hb : W.heap[b]? = some (.cells (g.cells a).toArray 110 (0, 0))) (hG : GIn W g a) (hs : seenG g n = true) (hz : Zok z) :
    Calls Try.prog 43 #[.pointer (some ⟨b, 0, none⟩), .int .i64 n, z2v z] W (Pure (z2v (htG g n z)) W) := by
  obtain ⟨hpf, hps, k, rfl, h1, h2⟩ := seen_in hs
  rw [htG, thingAt_eq h1 rfl, thingAt_eq h2 rfl]
  exact yheights_calls g a k _ _ z b W hb hG h1 h2 rfl rfl hpf hps hz.mul
theorem yanswerS_calls (g : Gl) (a : Ga) (n : Int) (z : Z2) (b : Nat) (W : World) (hb : W.heap[b]? = some (.cells (g.cells a).toArray 110 (0, 0))) (hG : GIn W g a) (hs : seenG g n = true) (hz : Zok z) :
    Calls Try.prog 126 #[.agg #[], .pointer (some ⟨b, 0, none⟩), .int .i64 n, z2v z] W (Pure (b2v (sankZ g n z)) W) := by
  obtain ⟨⟨h1, h2⟩, h3, h4⟩ := sank_bd hs hz
  refine calls_start Try.func126 rfl rfl ?_
  refine RunC.seq ?_
  refine RunC.region ?_
  refine RunL.new (New.box rfl) rfl rfl rfl (fun b4 => ?_)
  refine RunL.new (New.box rfl) rfl rfl rfl (fun b7 => ?_)
  refine RunL.new (New.alloc zero_64) rfl rfl rfl (fun b8 => ?_)
  refine RunL.nil ?_
  refine RunE.next ?_
  refine RunC.seq ?_
  refine RunC.region ?_
  refine RunL.val (Val.pure rfl) rfl rfl rfl ?_
  refine RunL.val (Val.pure rfl) rfl rfl rfl ?_
  refine RunL.val (Val.load_agg rfl (.tail _ (.head _)) ty_72 rfl) rfl rfl rfl ?_
  refine RunL.callP (isCall_func rfl ent_43) rfl rfl rfl (fun w hm => yheightsG_calls g a n z b w (hm.old_at hb (by simp)) (hG.mono hm) hs hz) ?_
  refine RunL.new (New.alloc zero_72) rfl rfl rfl (fun b9 => ?_)
  refine RunL.sto (Sto.store rfl rfl .here ty_72 rfl rfl) rfl rfl ?_
  refine RunL.nil ?_
  refine RunE.next ?_
  refine RunC.seq ?_
  refine RunC.region ?_
  refine RunL.val (Val.indexAddr_arr rfl rfl arr_72 (by decide) (by decide)) rfl rfl rfl ?_
  refine RunL.val (Val.load_agg rfl (.head _) ty_64 rfl) rfl rfl rfl ?_
  refine RunL.val (Val.indexAddr_arr rfl rfl arr_72 (by decide) (by decide)) rfl rfl rfl ?_
  refine RunL.val (Val.load_agg rfl (.head _) ty_64 rfl) rfl rfl rfl ?_
  refine RunL.callP (isCall_func rfl ent_57) rfl rfl rfl (fun w hm => yless_calls (htG g n z).1 (htG g n z).2 (by omega) w) ?_
  refine RunL.sto (Sto.store rfl rfl (.there .here) ty_64 rfl rfl) rfl rfl ?_
  refine RunL.nil ?_
  refine RunE.next ?_
  refine RunC.ret ?_
  exact RunE.retP (.r1 rfl (.agg rfl (.tail _ (.head _)) ty_64 rfl)) (by first | rfl | simp)
def ask1 {α : Type} (g : Gl) (n : Int) (f : Z2 → α) : Except Int α := if seenG g n then .ok (f (farG g n)) else .error 11
theorem yaskM_calls (g : Gl) (a : Ga) (n : Int) (b : Nat) (W : World) (hb : W.heap[b]? = some (.cells (g.cells a).toArray 110 (0, 0))) (hG : GIn W g a) :
    Calls Try.prog 37 #[.pointer (some ⟨b, 0, none⟩), .int .i64 n, .iface 69 (.agg #[])] W (Try ymisf (ask1 g n fun z => b2v (movedZ z)) W) := by
  refine calls_start Try.func37 rfl rfl ?_
  refine RunC.seq ?_
  refine RunC.region ?_
  refine RunL.new (New.alloc zero_64) rfl rfl rfl (fun b6 => ?_)
  refine RunL.nil ?_
  refine RunE.next ?_
  refine RunC.seq ?_
  refine RunC.region ?_
  refine RunL.val (Val.pure rfl) rfl rfl rfl ?_
  refine RunL.val (Val.pure rfl) rfl rfl rfl ?_
  refine RunL.callP (isCall_func rfl ent_41) rfl rfl rfl (fun w hm => yfar_calls g a n b w (hm.old_at hb (by simp)) (hG.mono hm)) ?_
  iterate 3 refine RunL.val (Val.pure rfl) rfl rfl rfl ?_
  refine RunL.new (New.alloc zero_72) rfl rfl rfl (fun b7 => ?_)
  refine RunL.sto (Sto.store rfl rfl .here ty_72 rfl rfl) rfl rfl ?_
  refine RunL.val (Val.pure rfl) rfl rfl rfl ?_
  refine RunL.nil ?_
  refine RunE.next ?_
  refine RunC.seq ?_
  refine RunC.region ?_
  refine RunL.val (Val.pure rfl) rfl rfl rfl ?_
  refine RunL.callT (isCall_func rfl ent_42) rfl rfl rfl (fun w hm => yneed_calls _ _ w) (fun e16 he16 => ?_) (fun v16 hv16 => ?_)
  · obtain ⟨er16, rfl⟩ := need_err he16
    refine RunE.pass_panic ?_
    exact RunE.panicT (by simp [ask1, er16])
  obtain ⟨ok16, rfl⟩ := need_ok hv16
  refine RunL.nil ?_
  refine RunE.next ?_
  refine RunC.seq ?_
  refine RunC.region ?_
  iterate 3 refine RunL.val (Val.pure rfl) rfl rfl rfl ?_
  refine RunL.val (Val.load_agg rfl (.head _) ty_72 rfl) rfl rfl rfl ?_
  refine RunL.callP (isCall_invoke rfl rfl (fun w => meth_69_pairworks_years_answer _ w) ent_125) rfl rfl rfl (fun w hm => yanswerM_calls n b _ (farG_ok g n) w) ?_
  refine RunL.sto (Sto.store rfl rfl (.there .here) ty_64 rfl rfl) rfl rfl ?_
  refine RunL.nil ?_
  refine RunE.next ?_
  refine RunC.ret ?_
  exact RunE.retT (.r1 rfl (.agg rfl (.tail _ (.head _)) ty_64 rfl)) (by simp [ask1, ok16, b2v])
theorem yaskS_calls (g : Gl) (a : Ga) (n : Int) (b : Nat) (W : World) (hb : W.heap[b]? = some (.cells (g.cells a).toArray 110 (0, 0))) (hG : GIn W g a) :
    Calls Try.prog 37 #[.pointer (some ⟨b, 0, none⟩), .int .i64 n, .iface 78 (.agg #[])] W (Try ymisf (ask1 g n fun z => b2v (sankZ g n z)) W) := by
  refine calls_start Try.func37 rfl rfl ?_
  refine RunC.seq ?_
  refine RunC.region ?_
  refine RunL.new (New.alloc zero_64) rfl rfl rfl (fun b6 => ?_)
  refine RunL.nil ?_
  refine RunE.next ?_
  refine RunC.seq ?_
  refine RunC.region ?_
  refine RunL.val (Val.pure rfl) rfl rfl rfl ?_
  refine RunL.val (Val.pure rfl) rfl rfl rfl ?_
  refine RunL.callP (isCall_func rfl ent_41) rfl rfl rfl (fun w hm => yfar_calls g a n b w (hm.old_at hb (by simp)) (hG.mono hm)) ?_
  iterate 3 refine RunL.val (Val.pure rfl) rfl rfl rfl ?_
  refine RunL.new (New.alloc zero_72) rfl rfl rfl (fun b7 => ?_)
  refine RunL.sto (Sto.store rfl rfl .here ty_72 rfl rfl) rfl rfl ?_
  refine RunL.val (Val.pure rfl) rfl rfl rfl ?_
  refine RunL.nil ?_
  refine RunE.next ?_
  refine RunC.seq ?_
  refine RunC.region ?_
  refine RunL.val (Val.pure rfl) rfl rfl rfl ?_
  refine RunL.callT (isCall_func rfl ent_42) rfl rfl rfl (fun w hm => yneed_calls _ _ w) (fun e16 he16 => ?_) (fun v16 hv16 => ?_)
  · obtain ⟨er16, rfl⟩ := need_err he16
    refine RunE.pass_panic ?_
    exact RunE.panicT (by simp [ask1, er16])
  obtain ⟨ok16, rfl⟩ := need_ok hv16
  refine RunL.nil ?_
  refine RunE.next ?_
  refine RunC.seq ?_
  refine RunC.region ?_
  iterate 3 refine RunL.val (Val.pure rfl) rfl rfl rfl ?_
  refine RunL.val (Val.load_agg rfl (.head _) ty_72 rfl) rfl rfl rfl ?_
  refine RunL.callP (isCall_invoke rfl rfl (fun w => meth_78_pairworks_years_answer _ w) ent_126) rfl rfl rfl (fun w hm => yanswerS_calls g a n _ b w (hm.old_at hb (by simp)) (hG.mono hm) ok16 (farG_ok g n)) ?_
  refine RunL.sto (Sto.store rfl rfl (.there .here) ty_64 rfl rfl) rfl rfl ?_
  refine RunL.nil ?_
  refine RunE.next ?_
  refine RunC.ret ?_
  exact RunE.retT (.r1 rfl (.agg rfl (.tail _ (.head _)) ty_64 rfl)) (by simp [ask1, ok16, b2v])
end Go.Proofs.Ytjijeeadmhpfcaa
/- Walks of package years: Moved, Sank, Heights, Rate, Arrives. -/
set_option linter.unusedSimpArgs false
set_option linter.unusedVariables false
namespace Go.Proofs.Ytjijeeadmhpfcaa
open Go Go.Eng Go.Pw1

theorem ask1_ok {α : Type} {g : Gl} {n : Int} {f : Z2 → α} {v : α} (h : ask1 g n f = .ok v) : seenG g n = true ∧ v = f (farG g n) := by
  unfold ask1 at h; split at h
  · cases h; exact ⟨by assumption, rfl⟩
  · cases h
theorem ask1_err {α : Type} {g : Gl} {n : Int} {f : Z2 → α} {k : Int} (h : ask1 g n f = .error k) : seenG g n = false ∧ k = 11 := by
  unfold ask1 at h; split at h
  · cases h
  · cases h; exact ⟨by simpa using ‹¬ seenG g n = true›, rfl⟩
theorem yMoved_calls (g : Gl) (a : Ga) (n : Int) (W : World) (hG : GIn W g a) : Calls Try.prog 11 #[g.v a, .int .i64 n] W (Pure (.tuple #[b2v (gMoved g n).1, .int .i64 (gMoved g n).2]) W) := by
  refine calls_start_defers Try.func11 rfl rfl ?_
  refine RunC.seq ?_
  refine RunC.region ?_
  refine RunL.new (New.box rfl) rfl rfl rfl (fun b2 => ?_)
  refine RunL.new (New.alloc zero_23) rfl rfl rfl (fun b4 => ?_)
  refine RunL.new (New.alloc zero_31) rfl rfl rfl (fun b5 => ?_)
  refine RunL.nil ?_
  refine RunE.next ?_
  refine RunC.seq ?_
  refine RunC.region ?_
  refine RunL.val (Val.pure rfl) rfl rfl rfl ?_
  refine RunL.deferC rfl ?_
  refine RunL.nil ?_
  refine RunE.next ?_
  refine RunC.seq ?_
  refine RunC.drawP 8 fol_ (.cons .here rfl (.cons .here rfl (.cons .here rfl .nil))) ?_
  refine RunA.val (i := 0) rfl (by kernel_rfl) (by kernel_rfl) (Val.load_agg rfl (.tail _ (.tail _ (.head _))) ty_28 rfl) rfl rfl rfl (PanQ.back rfl) (.cons .here rfl (.cons .here rfl (.cons .here rfl .nil))) rfl ?_
  refine RunA.val (i := 1) rfl (by kernel_rfl) (by kernel_rfl) (Val.load_agg rfl (.tail _ (.tail _ (.head _))) ty_28 rfl) rfl rfl rfl (PanQ.back rfl) (.cons .here rfl (.cons .here rfl (.cons .here rfl .nil))) rfl ?_
  refine RunA.val (i := 2) rfl (by kernel_rfl) (by kernel_rfl) (Val.pure rfl) rfl rfl rfl (PanQ.back rfl) (.cons .here rfl (.cons .here rfl (.cons .here rfl .nil))) rfl ?_
  refine RunA.val (i := 5) rfl (by kernel_rfl) (by kernel_rfl) (Val.pure rfl) rfl rfl rfl (PanQ.back rfl) (.cons .here rfl (.cons .here rfl (.cons .here rfl .nil))) rfl ?_
  refine RunA.val (i := 6) rfl (by kernel_rfl) (by kernel_rfl) (Val.build (parts := []) rfl zero_69 places_69 rfl) rfl rfl rfl (PanQ.back rfl) (.cons .here rfl (.cons .here rfl (.cons .here rfl .nil))) rfl ?_
  refine RunA.val (i := 7) rfl (by kernel_rfl) (by kernel_rfl) (Val.makeInterface rfl noif_69) rfl rfl rfl (PanQ.back rfl) (.cons .here rfl (.cons .here rfl (.cons .here rfl .nil))) rfl ?_
  refine RunA.one (i := 3) (by kernel_rfl) (by kernel_rfl) ?_
  refine RunI.callP rfl (isCall_func rfl ent_36) rfl rfl rfl (fun w hm => yisThing_calls g a n hG.l1 w) (RunK.toA (.cons .here rfl (.cons .here rfl (.cons .here rfl .nil))) (.cons .here rfl (.cons .here rfl (.cons .here rfl .nil))) rfl ?_)
  refine RunA.one (i := 4) (by kernel_rfl) (by kernel_rfl) ?_
  refine RunI.callTN rfl (isCall_func rfl ent_35) rfl rfl rfl (fun w hm => yopen_calls g a _ w (hG.mono hm)) (fun e11 he11 => ?_) (fun a11 ha11 b11 => (RunK.toA (.cons .here rfl (.cons .here rfl (.cons .here rfl (.cons .here rfl .nil)))) (.cons (.there .here) rfl (.cons (.there .here) rfl (.cons (.there .here) rfl .nil))) rfl ?_))
  · refine RunE.panQ_panic (Sub.skip rfl (Sub.skip rfl (Sub.skip rfl (Sub.skip rfl (Sub.skip rfl (Sub.skip rfl (Sub.skip rfl (Sub.refl _)))))))) (.cons .here rfl (.cons .here rfl (.cons .here rfl .nil))) ?_
    refine RunE.pass_panic ?_
    exact RunE.panDC yMoved_catches ent_33 .here (.r2 rfl (.agg rfl (.tail _ (.head _)) ty_23 rfl) (.one rfl (.head _) ty_31 rfl)) (by simp [gMoved, askG, he11, b2v])
  refine RunA.toB (by kernel_rfl) ?_
  refine RunB.one (i := 8) (by kernel_rfl) ?_
  refine RunI.callT rfl (isCall_func rfl ent_37) rfl rfl rfl (fun w hm => yaskM_calls g a n _ w (hm.at (.head _)) (hG.mono hm)) (fun e15 he15 => ?_) (fun v15 hv15 => (RunK.toB ?_))
  · obtain ⟨hs15, rfl⟩ := ask1_err he15
    refine RunE.panQ_panic (Sub.skip rfl (Sub.skip rfl (Sub.skip rfl (Sub.skip rfl (Sub.skip rfl (Sub.skip rfl (Sub.skip rfl (Sub.skip rfl (Sub.refl _))))))))) (.cons (.there .here) rfl (.cons (.there .here) rfl (.cons (.there .here) rfl .nil))) ?_
    refine RunE.pass_panic ?_
    exact RunE.panDC yMoved_catches ent_33 .here (.r2 rfl (.agg rfl (.tail _ (.head _)) ty_23 rfl) (.one rfl (.head _) ty_31 rfl)) (by simp [gMoved, askG, ha11, hs15, b2v])
  obtain ⟨hs15, rfl⟩ := ask1_ok hv15
  refine RunB.one (i := 9) (by kernel_rfl) ?_
  refine RunI.sto rfl (Sto.store rfl rfl (.there (.there .here)) ty_23 rfl rfl) rfl rfl (RunK.toB ?_)
  refine RunB.one (i := 10) (by kernel_rfl) ?_
  refine RunI.sto rfl (Sto.store rfl rfl (.there .here) ty_31 rfl rfl) rfl rfl (RunK.toB ?_)
  refine RunB.done (by kernel_rfl) ?_
  refine RunE.panQ_normal ?_
  refine RunE.next ?_
  refine RunC.ret ?_
  exact RunE.retDC yMoved_catches ent_33 (.r2 rfl (.agg rfl (.tail _ (.tail _ (.head _))) ty_23 rfl) (.one rfl (.tail _ (.head _)) ty_31 rfl)) (by simp [gMoved, askG, ha11, hs15, b2v])
theorem ySank_calls (g : Gl) (a : Ga) (n : Int) (W : World) (hG : GIn W g a) : Calls Try.prog 15 #[g.v a, .int .i64 n] W (Pure (.tuple #[b2v (gSank g n).1, .int .i64 (gSank g n).2]) W) := by
  refine calls_start_defers Try.func15 rfl rfl ?_
  refine RunC.seq ?_
  refine RunC.region ?_
  refine RunL.new (New.box rfl) rfl rfl rfl (fun b2 => ?_)
  refine RunL.new (New.alloc zero_23) rfl rfl rfl (fun b4 => ?_)
  refine RunL.new (New.alloc zero_31) rfl rfl rfl (fun b5 => ?_)
  refine RunL.nil ?_
  refine RunE.next ?_
  refine RunC.seq ?_
  refine RunC.region ?_
  refine RunL.val (Val.pure rfl) rfl rfl rfl ?_
  refine RunL.deferC rfl ?_
  refine RunL.nil ?_
  refine RunE.next ?_
  refine RunC.seq ?_
  refine RunC.drawP 8 fol_ (.cons .here rfl (.cons .here rfl (.cons .here rfl .nil))) ?_
  refine RunA.val (i := 0) rfl (by kernel_rfl) (by kernel_rfl) (Val.load_agg rfl (.tail _ (.tail _ (.head _))) ty_28 rfl) rfl rfl rfl (PanQ.back rfl) (.cons .here rfl (.cons .here rfl (.cons .here rfl .nil))) rfl ?_
  refine RunA.val (i := 1) rfl (by kernel_rfl) (by kernel_rfl) (Val.load_agg rfl (.tail _ (.tail _ (.head _))) ty_28 rfl) rfl rfl rfl (PanQ.back rfl) (.cons .here rfl (.cons .here rfl (.cons .here rfl .nil))) rfl ?_
  refine RunA.val (i := 2) rfl (by kernel_rfl) (by kernel_rfl) (Val.pure rfl) rfl rfl rfl (PanQ.back rfl) (.cons .here rfl (.cons .here rfl (.cons .here rfl .nil))) rfl ?_
  refine RunA.val (i := 5) rfl (by kernel_rfl) (by kernel_rfl) (Val.pure rfl) rfl rfl rfl (PanQ.back rfl) (.cons .here rfl (.cons .here rfl (.cons .here rfl .nil))) rfl ?_
  refine RunA.val (i := 6) rfl (by kernel_rfl) (by kernel_rfl) (Val.build (parts := []) rfl zero_78 places_78 rfl) rfl rfl rfl (PanQ.back rfl) (.cons .here rfl (.cons .here rfl (.cons .here rfl .nil))) rfl ?_
  refine RunA.val (i := 7) rfl (by kernel_rfl) (by kernel_rfl) (Val.makeInterface rfl noif_78) rfl rfl rfl (PanQ.back rfl) (.cons .here rfl (.cons .here rfl (.cons .here rfl .nil))) rfl ?_
  refine RunA.one (i := 3) (by kernel_rfl) (by kernel_rfl) ?_
  refine RunI.callP rfl (isCall_func rfl ent_36) rfl rfl rfl (fun w hm => yisThing_calls g a n hG.l1 w) (RunK.toA (.cons .here rfl (.cons .here rfl (.cons .here rfl .nil))) (.cons .here rfl (.cons .here rfl (.cons .here rfl .nil))) rfl ?_)
  refine RunA.one (i := 4) (by kernel_rfl) (by kernel_rfl) ?_
  refine RunI.callTN rfl (isCall_func rfl ent_35) rfl rfl rfl (fun w hm => yopen_calls g a _ w (hG.mono hm)) (fun e11 he11 => ?_) (fun a11 ha11 b11 => (RunK.toA (.cons .here rfl (.cons .here rfl (.cons .here rfl (.cons .here rfl .nil)))) (.cons (.there .here) rfl (.cons (.there .here) rfl (.cons (.there .here) rfl .nil))) rfl ?_))
  · refine RunE.panQ_panic (Sub.skip rfl (Sub.skip rfl (Sub.skip rfl (Sub.skip rfl (Sub.skip rfl (Sub.skip rfl (Sub.skip rfl (Sub.refl _)))))))) (.cons .here rfl (.cons .here rfl (.cons .here rfl .nil))) ?_
    refine RunE.pass_panic ?_
    exact RunE.panDC ySank_catches ent_45 .here (.r2 rfl (.agg rfl (.tail _ (.head _)) ty_23 rfl) (.one rfl (.head _) ty_31 rfl)) (by simp [gSank, askG, he11, b2v])
  refine RunA.toB (by kernel_rfl) ?_
  refine RunB.one (i := 8) (by kernel_rfl) ?_
  refine RunI.callT rfl (isCall_func rfl ent_37) rfl rfl rfl (fun w hm => yaskS_calls g a n _ w (hm.at (.head _)) (hG.mono hm)) (fun e15 he15 => ?_) (fun v15 hv15 => (RunK.toB ?_))
  · obtain ⟨hs15, rfl⟩ := ask1_err he15
    refine RunE.panQ_panic (Sub.skip rfl (Sub.skip rfl (Sub.skip rfl (Sub.skip rfl (Sub.skip rfl (Sub.skip rfl (Sub.skip rfl (Sub.skip rfl (Sub.refl _))))))))) (.cons (.there .here) rfl (.cons (.there .here) rfl (.cons (.there .here) rfl .nil))) ?_
    refine RunE.pass_panic ?_
    exact RunE.panDC ySank_catches ent_45 .here (.r2 rfl (.agg rfl (.tail _ (.head _)) ty_23 rfl) (.one rfl (.head _) ty_31 rfl)) (by simp [gSank, askG, ha11, hs15, b2v])
  obtain ⟨hs15, rfl⟩ := ask1_ok hv15
  refine RunB.one (i := 9) (by kernel_rfl) ?_
  refine RunI.sto rfl (Sto.store rfl rfl (.there (.there .here)) ty_23 rfl rfl) rfl rfl (RunK.toB ?_)
  refine RunB.one (i := 10) (by kernel_rfl) ?_
  refine RunI.sto rfl (Sto.store rfl rfl (.there .here) ty_31 rfl rfl) rfl rfl (RunK.toB ?_)
  refine RunB.done (by kernel_rfl) ?_
  refine RunE.panQ_normal ?_
  refine RunE.next ?_
  refine RunC.ret ?_
  exact RunE.retDC ySank_catches ent_45 (.r2 rfl (.agg rfl (.tail _ (.tail _ (.head _))) ty_23 rfl) (.one rfl (.tail _ (.head _)) ty_31 rfl)) (by simp [gSank, askG, ha11, hs15, b2v])
end Go.Proofs.Ytjijeeadmhpfcaa
