/- The engine, said inside a fence that may stand in the round of a range over a function: for the body of a round, and for the iterator. No program is in sight. -/
import Derived.Test.YtlhdalcipflblaaDoorEngA
import Derived.RangeFuncWrites
import Derived.RangeFuncLeaves
import Derived.RangeFuncCalls
import Derived.RangeFuncBound
import Derived.LoopNIn
import Derived.ProofKit
import Derived.OpenShut
import Derived.ShutString
import Derived.ChangeOld
import Derived.Below
import Derived.Carry
import Derived.Deep.Slices
import Derived.ArgAppend
namespace Go.Eng
open Go Go.RowKit

def Fr (ro : Option Nat) : Fence := { fn := fun _ => True, depth := none, alive := false, round := ro }
theorem Fr_none : Fr none = Fence.wide := rfl
theorem Fr_some (l : Nat) : Fr (some l) = Fence.wide.inRound l := rfl
def notDefer (o : Oper) : Bool := match o.op with
  | .defer _ => false
  | _ => true
theorem notDefer_spec {o : Oper} (h : notDefer o = true) : ∀ c, o.op ≠ .defer c := fun c e => by simp [notDefer, e] at h

section
variable {ro : Option Nat} {P : Program} {ops : Array Oper} {Q : Exit → Act → World → Prop} {n : Nat} {r : Regs} {ds : List Deferred} {W : World} {chg news : Blks} {rest : List Oper}
variable {d : Nat}

def RunCR (ro : Option Nat) (P : Program) (Q : Exit → Act → World → Prop) (n : Nat) (c : Code) (r : Regs) (ds : List Deferred) (W : World) (chg news : Blks) : Prop :=
  ∀ a w, St n r ds W chg news a w → c.wpIn (Fr ro) 9 P Q a w
def RunLR (ro : Option Nat) (P : Program) (ops : Array Oper) (Q : Exit → Act → World → Prop) (n : Nat) (l : List Oper) (r : Regs) (ds : List Deferred) (W : World) (chg news : Blks) : Prop :=
  ∀ a w, St n r ds W chg news a w → wpListIn (Fr ro) 9 P ops Q l a w

/-- What holds at the wide fence. -/
theorem RunCR.of {c : Code} (h : RunC P Q n c r ds W chg news) : RunCR none P Q n c r ds W chg news := fun a w s => wpIn_wide.2 (h a w s)
theorem RunCR.to {c : Code} (h : RunCR none P Q n c r ds W chg news) : RunC P Q n c r ds W chg news := fun a w s => wpIn_wide.1 (h a w s)
theorem RunCR.seq {x y : Code} (h : RunCR ro P (Exit.then (y.wpIn (Fr ro) 9 P Q) Q) n x r ds W chg news) : RunCR ro P Q n (.seq x y) r ds W chg news := fun a w s => wpIn_seq (h a w s)
theorem RunCR.block {id : Nat} {c : Code} (h : RunCR ro P (Exit.inBlock id Q) n c r ds W chg news) : RunCR ro P Q n (.block id c) r ds W chg news := fun a w s => wpIn_block (h a w s)
theorem RunCR.skip (h : RunE Q n .normal r ds W chg news) : RunCR ro P Q n .skip r ds W chg news := fun a w s => wpIn_skip (h a w s)
theorem RunCR.exit {id : Nat} (h : RunE Q n (.exit id) r ds W chg news) : RunCR ro P Q n (.exit id) r ds W chg news := fun a w s => wpIn_exit (h a w s)
theorem RunCR.ret (h : RunE Q n .ret r ds W chg news) : RunCR ro P Q n .ret r ds W chg news := fun a w s => wpIn_ret (h a w s)
theorem RunCR.cond {c : Operand} {x y : Code} {t : Bool} (hc : rev r c = some (.bool t)) (ht : t = true → RunCR ro P Q n x r ds W chg news) (hf : t = false → RunCR ro P Q n y r ds W chg news) :
    RunCR ro P Q n (.cond c x y) r ds W chg news := fun a w s => by
  refine wpIn_cond (s.agree.eval hc) ?_
  cases t
  · exact hf rfl a w s
  · exact ht rfl a w s
theorem RunCR.region {id : Nat} {l : List Oper} (h : RunLR ro P l.toArray Q n l r ds W chg news) : RunCR ro P Q n (.region id l.toArray false) r ds W chg news := fun a w s => wpIn_region_lit (h a w s)
theorem RunLR.nil (h : RunE Q n .normal r ds W chg news) : RunLR ro P ops Q n [] r ds W chg news := fun a w s => h a w s
theorem RunER.next {y : Code} {Q' : Exit → Act → World → Prop} (h : RunCR ro P Q n y r ds W chg news) : RunE (Exit.then (y.wpIn (Fr ro) 9 P Q) Q') n .normal r ds W chg news := fun a w s => h a w s

theorem wpListIn_yes {a : Act} {w : World} {o : Oper} (hw : Region.wanted o (yielded ops a.tmps) = true) (hnd : notDefer o = true)
    (h : ∀ K : Act → World → Prop, (∀ a w, wpListIn (Fr ro) 9 P ops Q rest a w → K a w) → o.uponIn (Fr ro) 9 P a K Q ((execOp a.eval o).run P w)) : wpListIn (Fr ro) 9 P ops Q (o :: rest) a w :=
  wpListIn_step fun K hK => by
    rw [if_pos hw]
    refine ⟨fun _ _ => trivial, ?_⟩
    rw [Oper.semAt_eq _ _ _ (notDefer_spec hnd)]
    exact h K hK
theorem RunLR.val {o : Oper} {v : Value} (hv : Val P r W chg news o v) (hg : guardB ops r o.guard = some true) (hd : o.dst = some d) (hn : Nat.ble (d + 1) n = true)
    (h : RunLR ro P ops Q n rest ((d, v) :: r) ds W chg news) (hnd : notDefer o = true := by rfl) : RunLR ro P ops Q n (o :: rest) r ds W chg news := fun a w s =>
  wpListIn_yes (guardB_spec s.agree hg) hnd fun K hK => by
    rw [hv.run a w s.agree s.mem, Oper.uponIn_value, hd]
    exact hK _ _ (h _ _ (s.put (Nat.le_of_ble_eq_true hn) v))
theorem RunLR.no {o : Oper} (hg : guardB ops r o.guard = some false) (hd : o.dst = some d) (hn : Nat.ble (d + 1) n = true)
    (h : RunLR ro P ops Q n rest ((d, undef) :: r) ds W chg news) : RunLR ro P ops Q n (o :: rest) r ds W chg news := fun a w s =>
  wpListIn_step fun K hK => by
    rw [if_neg (by rw [guardB_spec s.agree hg]; simp)]
    exact ⟨fun _ _ => trivial, hK _ _ (by rw [hd]; exact h _ _ (s.put (Nat.le_of_ble_eq_true hn) undef))⟩
theorem RunLR.new {o : Oper} {v : Nat → Value} {ob : Obj} (hv : New P r W chg news o v ob) (hg : guardB ops r o.guard = some true) (hd : o.dst = some d) (hn : Nat.ble (d + 1) n = true)
    (h : ∀ b, RunLR ro P ops Q n rest ((d, v b) :: r) ds W chg ((b, ob) :: news)) (hnd : notDefer o = true := by rfl) : RunLR ro P ops Q n (o :: rest) r ds W chg news := fun a w s =>
  wpListIn_yes (guardB_spec s.agree hg) hnd fun K hK => by
    rw [hv.run a w s.agree s.mem, Oper.uponIn_value, hd]
    have s2 := s.put (Nat.le_of_ble_eq_true hn) (v w.heap.size)
    exact hK _ _ (h _ _ _ ⟨s2.size, s2.agree, s2.defers, s.mem.alloc ob⟩)
theorem RunLR.sto {o : Oper} {chg' news' : Blks} (hv : Sto P r W chg news o chg' news') (hg : guardB ops r o.guard = some true) (hd : o.dst = none)
    (h : RunLR ro P ops Q n rest r ds W chg' news') (hnd : notDefer o = true := by rfl) : RunLR ro P ops Q n (o :: rest) r ds W chg news := fun a w s =>
  wpListIn_yes (guardB_spec s.agree hg) hnd fun K hK => by
    obtain ⟨w', h1, h2⟩ := hv.run a w s.agree s.mem
    rw [h1, Oper.uponIn_skip, hd]
    exact hK _ _ (h _ _ ⟨s.size, s.agree, s.defers, h2⟩)
theorem RunLR.callP {o : Oper} {f : FuncId} {args : Array Value} {v : Value} (hi : IsCall P r o f args) (hg : guardB ops r o.guard = some true) (hd : o.dst = some d) (hn : Nat.ble (d + 1) n = true)
    (hc : ∀ w, Mem W chg news w → Calls P f args w (Pure v w)) (h : RunLR ro P ops Q n rest ((d, v) :: r) ds W chg news) (hnd : notDefer o = true := by rfl) : RunLR ro P ops Q n (o :: rest) r ds W chg news := fun a w s =>
  wpListIn_yes (guardB_spec s.agree hg) hnd fun K hK => by
    rw [hi.runs a w s.agree, Oper.uponIn_enter]
    refine ⟨fun h => (by cases h), ?_⟩
    have hc' : CallsIn Fence.wide 8 P f args w (Pure v w) := callsIn_wide.2 (hc w s.mem)
    have hc2 : CallsIn (Fr ro) 8 P f args w (Pure v w) := by
      cases ro with
      | none => exact hc'
      | some l => exact CallsIn.inRound l hc'
    refine hc2.mono ?_
    rintro e w' ⟨rfl, hm⟩
    show K _ _
    rw [hd]
    have s2 := s.put (Nat.le_of_ble_eq_true hn) v
    exact hK _ _ (h _ _ ⟨s2.size, s2.agree, s2.defers, s.mem.pass hm⟩)

theorem uponIn_seg {o : Oper} {a : Act} {K K' L : Act → World → Prop} (h : ∀ a w, K a w → K' a w) {x : Result Next} (hh : o.uponIn (Fr ro) 9 P a K (SegQ Q L) x) : o.uponIn (Fr ro) 9 P a K' Q x := by
  cases x with
  | ok nx w' =>
    cases nx <;> simp only [Oper.uponIn] at hh ⊢ <;>
      first
        | exact h _ _ hh
        | exact ⟨hh.1, hh.2.mono (fun e w'' he => by cases e <;> first | exact h _ _ he | exact he)⟩
        | exact ⟨hh.1, RowsIn.mono hh.2 (fun _ _ he => h _ _ he)⟩
        | exact hh
  | halt x w' => cases x <;> simp only [Oper.uponIn] at hh ⊢ <;> exact hh
theorem wpListIn_append {K : Act → World → Prop} {l2 : List Oper} (hK : ∀ a w, K a w → wpListIn (Fr ro) 9 P ops Q l2 a w) : ∀ (l : List Oper) (a : Act) (w : World), wpListIn (Fr ro) 9 P ops (SegQ Q K) l a w → wpListIn (Fr ro) 9 P ops Q (l ++ l2) a w
  | [], a, w, h => hK a w h
  | o :: l, a, w, h => by
    simp only [wpListIn, List.cons_append] at h ⊢
    split
    · rename_i hw
      rw [if_pos hw] at h
      exact ⟨h.1, uponIn_seg (wpListIn_append hK l) h.2⟩
    · rename_i hw
      rw [if_neg hw] at h
      exact ⟨h.1, wpListIn_append hK l _ _ h.2⟩
theorem RunLR.part {l : List Oper} {q : Regs} (k : Nat) (h1 : RunLR ro P ops (SegQ Q (St n q ds W chg news)) n (l.take k) r ds W chg news) (h2 : RunLR ro P ops Q n (l.drop k) q ds W chg news) : RunLR ro P ops Q n l r ds W chg news := by
  have h : RunLR ro P ops Q n (l.take k ++ l.drop k) r ds W chg news := fun a w s => wpListIn_append h2 _ a w (h1 a w s)
  rwa [List.take_append_drop] at h
theorem RunLR.segEnd {q : Regs} {news' : Blks} (hs : Sub q r) (hn : news'.Sublist news) : RunLR ro P ops (SegQ Q (St n q ds W chg news')) n [] r ds W chg news := fun _ _ s => s.sub hs hn
theorem RunLR.andPart {l : List Oper} {b x : Bool} {dj dp : Nat} (k : Nat) (hj : rget r dj = some (.bool b))
    (hyes : b = true → RunLR ro P ops (SegQ Q (St n ((dp, .bool x) :: r) ds W chg news)) n (l.take k) ((dj, .bool true) :: r) ds W chg news)
    (hno : b = false → RunLR ro P ops (SegQ Q (St n ((dp, .bool false) :: r) ds W chg news)) n (l.take k) ((dj, .bool false) :: r) ds W chg news)
    (h2 : RunLR ro P ops Q n (l.drop k) ((dp, .bool (b && x)) :: r) ds W chg news) : RunLR ro P ops Q n l r ds W chg news := by
  refine RunLR.part k ?_ h2
  intro a w s
  cases b with
  | true => exact hyes rfl a w (s.know hj rfl)
  | false => exact hno rfl a w (s.know hj rfl)

/-! ### A call of the round -/
structure IsYield (P : Program) (r : Regs) (o : Oper) (l : Nat) (args : Array Value) : Prop where
  runs : ∀ a w, Agree a r → (execOp a.eval o).run P w = (Instr.yield l args).run P w
theorem isYield_value {x : Operand} {l : Nat} {xs : List Operand} {vs : List Value} {ats : Array TypeId} {dst : Option Tmp} {gd : Option (Nat × Bool)} {ty : TypeId} {pos : String} {after : Array Edge} (hv : rev r x = some (.func (.yield l) #[] #[])) (hx : revs r xs = some vs) :
    IsYield P r { dst, op := .call { callee := .value x, args := xs.toArray, argTypes := ats }, type := ty, pos, after, guard := gd } l vs.toArray :=
  ⟨fun a w ha => by
    have h1 := ha.evals hx
    simp [execOp, resolve, h1, ha.eval hv, Deferred.ofValue, invoke]⟩
/-- The round comes, and the memory is another: what is known of it behind the round is said anew, of the world that it left. -/
theorem RunLR.yield {o : Oper} {l : Nat} {args : Array Value} {RY : Bool → World → Prop} (hi : IsYield P r o l args) (hg : guardB ops r o.guard = some true) (hd : o.dst = some d) (hn : Nat.ble (d + 1) n = true)
    (hy : ∀ w, Mem W chg news w → YieldAt (Fr none) 8 P l args w fun e w' => ∃ b, e = .returned (.bool b) ∧ RY b w')
    (h : ∀ b W', RY b W' → RunLR none P ops Q n rest ((d, .bool b) :: r) ds W' [] []) (hnd : notDefer o = true := by rfl) : RunLR none P ops Q n (o :: rest) r ds W chg news := fun a w s =>
  wpListIn_yes (guardB_spec s.agree hg) hnd fun K hK => by
    obtain ⟨fn, tmps, assign, body, hy1, hy2⟩ := hy w s.mem
    rw [hi.runs a w s.agree, hy1, Oper.uponIn_round]
    refine ⟨fun h => (by cases h), hy2.mono ?_⟩
    rintro e w' ⟨b, rfl, hb⟩
    show K _ _
    rw [hd]
    have s2 := s.put (Nat.le_of_ble_eq_true hn) (.bool b)
    exact hK _ _ (h b w' hb _ _ ⟨s2.size, s2.agree, s2.defers, Mem.refl _⟩)

/-- A loop whose rounds each begin in a world of their own. -/
def RoundW (n : Nat) (ds : List Deferred) (N : Nat) (Inv : Nat → World → Prop) (R : Nat → Regs) (k : Nat) (a : Act) (w : World) : Prop :=
  ∃ k', k < k' ∧ k' ≤ N ∧ Inv k' w ∧ St n (R k') ds w [] [] a w
theorem St.rebase {q : Regs} {a : Act} {w : World} (s : St n r ds W chg news a w) (hs : Sub q r) : St n q ds w [] [] a w := ⟨s.size, s.agree.sub hs, s.defers, Mem.refl w⟩
theorem RunCR.loopW {body : Code} {q : Regs} (N : Nat) (R : Nat → Regs → Regs) (Inv : Nat → World → Prop) (h0 : ∀ w, Mem W chg news w → Inv 0 w) (hs : Sub (R 0 q) r)
    (hb : ∀ k W', k ≤ N → Inv k W' → RunCR ro P (Exit.then (RoundW n ds N Inv (fun k => R k q) k) Q) n body (R k q) ds W' [] []) : RunCR ro P Q n (.loop body) r ds W chg news := by
  have key : ∀ (m k : Nat), N - k < m → k ≤ N → ∀ a w, Inv k w → St n (R k q) ds w [] [] a w → Code.roundsIn (Fr ro) 9 P body Q m a w := by
    intro m
    induction m with
    | zero => intro k h; omega
    | succ m ih =>
      intro k hk hN a w hi s
      rw [roundsIn_succ]
      refine wpIn_mono (hb k w hN hi a w s) ?_
      rintro e a2 w2 hq
      cases e with
      | normal =>
        obtain ⟨k', h1, h2, h3, s2⟩ := hq
        exact ih k' (by omega) h2 a2 w2 h3 s2
      | exit id => exact hq
      | goto l => exact hq
      | ret => exact hq
      | panic c => exact hq
      | outgrown => exact hq
  intro a w s
  exact wpIn_loop_rounds _ (key _ 0 (Nat.lt_succ_self _) (Nat.zero_le _) a w (h0 w s.mem) (s.rebase hs))
theorem RunE.roundW {N : Nat} {Inv : Nat → World → Prop} {R : Nat → Regs} {k : Nat} (hN : k + 1 ≤ N) (hi : ∀ w, Mem W chg news w → Inv (k + 1) w) (hs : Sub (R (k + 1)) r) :
    RunE (Exit.then (RoundW n ds N Inv R k) Q) n .normal r ds W chg news := fun _ w s => ⟨k + 1, Nat.lt_succ_self _, hN, hi w s.mem, s.rebase hs⟩

/-! ### Functions that hold such a loop -/
theorem Mem.grown {w : World} (h : Mem W [] news w) : W.grownBy w none := ⟨h.os, h.tape, h.output, h.size, fun k hk _ => h.old k hk (by simp)⟩
theorem wpIn_any {c : Code} {m k : Nat} {a : Act} {w : World} (h : c.wpIn (Fr ro) m P Q a w) : c.wpIn (Fr ro) k P Q a w := fun b i cs h1 h2 _ => h b i cs h1 h2 (fun _ hd => by cases hd)
theorem callsIn_start {f : FuncId} {fn : Func} {c : Code} {vs : List Value} {R : Ending → World → Prop} (hf : P.funcs[f]? = some fn) (hb : fn.body = some c) (hn : Nat.ble vs.length fn.ntmps = true)
    (h : RunCR none P (bodyPost P fn R) fn.ntmps c (args0 0 vs) [] W [] []) (m : Nat) : CallsIn (Fr none) m P f vs.toArray W R :=
  callsIn_of_wp hf hb trivial (wpIn_any (h _ _ (start_st (Nat.le_of_ble_eq_true hn) (Mem.refl W)))) rfl

/-! ### The loop itself -/
/-- What the body leaves as it was. -/
def KpX (B : Nat) (nm : List Nat) (W W' : World) : Prop := ∀ k, k < B → k ∉ nm → W'.heap[k]? = W.heap[k]?
def BodyQ (W : World) (V : Blks) : Exit → Act → World → Prop
  | .normal, _, w => Mem W V [] w
  | _, _, _ => False
theorem RunE.bodyDone {V : Blks} (hc : chg = V) : RunE (BodyQ W V) n .normal r ds W chg news := fun _ _ s => hc ▸ s.mem.drop
theorem mem_names {l : Blks} {b : Nat} : b ∈ l.map (·.1) ↔ ∃ o, (b, o) ∈ l := by simp
theorem Mem.round {w w' : World} {V V' n0 : Blks} (h : Mem W chg (V ++ n0) w) (h' : Mem w V' [] w') (hm : V'.map (·.1) = V.map (·.1)) : Mem W chg (V' ++ n0) w' := by
  have hV : ∀ b, (∃ o, (b, o) ∈ V') ↔ ∃ o, (b, o) ∈ V := fun b => by rw [← mem_names, ← mem_names, hm]
  have hge : ∀ b o, (b, o) ∈ V' → W.heap.size ≤ b := fun b o hb => by
    obtain ⟨o2, h2⟩ := (hV b).1 ⟨o, hb⟩
    exact (h.newd b o2 (List.mem_append.2 (.inl h2))).1
  have hnd := h.once
  refine ⟨h'.os.trans h.os, h'.tape.trans h.tape, h'.output.trans h.output, Nat.le_trans h.size h'.size, fun k hk hc => ?_, fun b o hb => ?_, fun b o hb => ?_, ?_⟩
  · rw [h'.old k (Nat.lt_of_lt_of_le hk h.size) (fun o ho => by have := hge k o ho; omega)]
    exact h.old k hk hc
  · have h1 := h.chgd b o hb
    refine ⟨h1.1, ?_⟩
    rw [h'.old b (Nat.lt_of_lt_of_le h1.1 h.size) (fun o2 ho => by have := hge b o2 ho; omega)]
    exact h1.2
  · rcases List.mem_append.1 hb with hb | hb
    · exact ⟨hge b o hb, (h'.chgd b o hb).2⟩
    · have h1 := h.newd b o (List.mem_append.2 (.inr hb))
      refine ⟨h1.1, ?_⟩
      rw [h'.old b (h.lt_new (List.mem_append.2 (.inr (List.mem_append.2 (.inr hb))))) (fun o2 ho => ?_)]
      · exact h1.2
      · obtain ⟨o3, h3⟩ := (hV b).1 ⟨o2, ho⟩
        rw [List.map_append, List.map_append, List.nodup_append] at hnd
        have h4 := (List.nodup_append.1 hnd.2.1).2.2 b (mem_names.2 ⟨o3, h3⟩) b (mem_names.2 ⟨o, hb⟩)
        exact h4 rfl
  · have e : (chg ++ (V' ++ n0)).map (·.1) = (chg ++ (V ++ n0)).map (·.1) := by simp [List.map_append, hm]
    rw [e]; exact hnd
theorem Mem.turned {w w' : World} {row : Option Nat} {B : Nat} (h : Mem W chg news w) (hg : w.grownBy w' row) (hr : ∀ k, row = some k → B ≤ k) (hlt : ∀ b o, (b, o) ∈ chg ++ news → b < B) (hW : W.heap.size ≤ B) : Mem W chg news w' := by
  have hne : ∀ k, k < B → some k ≠ row := fun k hk e => by have := hr k e.symm; omega
  refine ⟨hg.os.trans h.os, hg.tape.trans h.tape, hg.output.trans h.output, Nat.le_trans h.size hg.size, fun k hk hc => ?_, fun b o hb => ?_, fun b o hb => ?_, h.once⟩
  · rw [hg.block k (Nat.lt_of_lt_of_le hk h.size) (hne k (by omega))]; exact h.old k hk hc
  · have h1 := h.chgd b o hb
    exact ⟨h1.1, by rw [hg.block b (h.lt_new (List.mem_append.2 (.inl hb))) (hne b (hlt b o (List.mem_append.2 (.inl hb))))]; exact h1.2⟩
  · have h1 := h.newd b o hb
    exact ⟨h1.1, by rw [hg.block b (h.lt_new (List.mem_append.2 (.inr hb))) (hne b (hlt b o (List.mem_append.2 (.inr hb))))]; exact h1.2⟩

/-- 'for x := range seq': the blocks V turn from round to round; all else that was known stays. -/
theorem RunC.rangeFunc {α : Type} {g : Operand} {p q gf N id : Nat} {lb : Array Value} {enc : α → Value} {S : List α → Prop} {oA : Oper} {body : Code} (V : List α → Blks) (n0 : Blks)
    (hg : rev r g = some (.func (.func gf) #[] lb)) (he : Enters P gf) (hn : Pick (V [] ++ n0) news) (hnm : ∀ pre, (V pre).map (·.1) = (V []).map (·.1)) (hcl : ∀ pre b o, (b, o) ∈ V pre → o.isCells = true)
    (hseq : ∀ w, Mem W chg (V [] ++ n0) w → SeqStopsK (Fr none) 8 P gf lb (fun x => #[enc x]) (KpX w.heap.size ((V []).map (·.1))) S (fun _ => True) N w)
    (hp : Nat.ble (p + 1) n = true) (hq : Nat.ble (q + 1) n = true) (hA : ∀ v, pureV ((p, v) :: r) oA.op = some v) (hAg : oA.guard = none) (hAd : oA.dst = some q) (hAn : notDefer oA = true)
    (hbody : ∀ l pre x W1, pre.length < N → Mem W chg (V pre ++ n0) W1 → RunCR (some l) P (BodyQ W1 (V (pre ++ [x]))) n body ((q, enc x) :: (p, enc x) :: r) [] W1 (V pre) [])
    (h : ∀ xs D, S xs → RunE Q n .normal r ({ target := .collected D, args := #[] } :: ds) W chg ((D, .deferred (some [])) :: (V xs ++ n0))) :
    RunC P Q n (.rangeFunc g #[p] (.region id #[oA] false) body) r ds W chg news := fun a w s => by
  have s0 := s.mem.pick hn
  have hlt : ∀ pre b o, (b, o) ∈ chg ++ (V pre ++ n0) → b < w.heap.size := fun pre b o hb => by
    rcases List.mem_append.1 hb with hb | hb
    · exact s0.lt_new (List.mem_append.2 (.inl hb))
    · rcases List.mem_append.1 hb with hb | hb
      · have : b ∈ (V pre).map (·.1) := mem_names.2 ⟨o, hb⟩
        rw [hnm pre] at this
        obtain ⟨o2, h2⟩ := mem_names.1 this
        exact s0.lt_new (List.mem_append.2 (.inr (List.mem_append.2 (.inl h2))))
      · exact s0.lt_new (List.mem_append.2 (.inr (List.mem_append.2 (.inr hb))))
  have hge : ∀ pre b o, (b, o) ∈ V pre → W.heap.size ≤ b := fun pre b o hb => by
    have : b ∈ (V pre).map (·.1) := mem_names.2 ⟨o, hb⟩
    rw [hnm pre] at this
    obtain ⟨o2, h2⟩ := mem_names.1 this
    exact (s0.newd b o2 (List.mem_append.2 (.inl h2))).1
  have hown : OwnFrom w.heap.size (fun (pre : List α) W' => Mem W chg (V pre ++ n0) W' ∧ w.heap.size ≤ W'.heap.size) := fun pre A B row hI hgr hr => ⟨hI.1.turned hgr (fun k e => (hr k e).1) (hlt pre) s0.size, Nat.le_trans hI.2 hgr.size⟩
  refine (wpIn_wide (n := 9)).1 ?_
  show Code.wpIn (Fr none) 9 P _ Q a w
  refine wpIn_rangeFunc_ownG (F := Fr none) (n := 9) rfl (by decide) (s.agree.eval hg) trivial he (hseq w s0) (fun {A B C} h1 h2 k hk hne => (h2 k hk hne).trans (h1 k hk hne)) ?_ (Below.refl _ w) (fun _ => rfl)
    (fun pre W' => Mem W chg (V pre ++ n0) W' ∧ w.heap.size ≤ W'.heap.size) (fun _ _ _ => False) hown (fun _ _ _ _ _ hf _ _ => hf) ⟨s0, Nat.le_refl _⟩ (fun x => ({ tmps := a.tmps.setIfInBounds p (enc x), defers := [] } : Act).put (some q) (enc x)) ?assign ?body ?done ?stop
  · intro W' l o o' hl _ _ _ k hk _
    exact World.putObj_heap_other (by omega)
  case assign =>
    intro l x W' K hK
    have hsz : p < a.tmps.size := by rw [s.size]; exact Nat.le_of_ble_eq_true hp
    have hag : Agree (({ tmps := a.tmps, defers := [] } : Act).put (some p) (enc x)) ((p, enc x) :: r) := Agree.put (a := { tmps := a.tmps, defers := [] }) (fun t u ht => s.agree t u ht) hsz
    have e : (#[p].zip #[enc x]).foldl (fun t (pv : Nat × Value) => t.setIfInBounds pv.1 pv.2) a.tmps = a.tmps.setIfInBounds p (enc x) := by simp
    refine wpIn_region_lit (l := [oA]) (wpListIn_plain hAg fun K2 hK2 => ?_)
    refine ⟨fun _ _ => trivial, ?_⟩
    rw [Oper.semAt_eq _ _ _ (notDefer_spec hAn)]
    have hrun := pureV_sound (P := P) (o := oA) hag (hA (enc x)) W'
    have e2 : (({ tmps := a.tmps, defers := [] } : Act).put (some p) (enc x)) = { tmps := (#[p].zip #[enc x]).foldl (fun t (pv : Nat × Value) => t.setIfInBounds pv.1 pv.2) a.tmps, defers := [] } := by rw [e]; rfl
    rw [e2] at hrun
    rw [hrun, Oper.uponIn_value, hAd]
    refine hK2 _ _ ?_
    show K _ _
    rw [e]
    exact hK
  case body =>
    intro l pre x W1 ⟨hI, hsz1⟩ hlen
    have hsz : p < a.tmps.size := by rw [s.size]; exact Nat.le_of_ble_eq_true hp
    have hsz2 : q < a.tmps.size := by rw [s.size]; exact Nat.le_of_ble_eq_true hq
    have hag : Agree (({ tmps := a.tmps, defers := [] } : Act).put (some p) (enc x)) ((p, enc x) :: r) := Agree.put (a := { tmps := a.tmps, defers := [] }) (fun t u ht => s.agree t u ht) hsz
    have hag2 := hag.put (d := q) (v := enc x) (by simp [Act.put]; exact hsz2)
    have hst : Mem W1 (V pre) [] W1 := ⟨rfl, rfl, rfl, Nat.le_refl _, fun _ _ _ => rfl, fun b o hb => ⟨hI.lt_new (List.mem_append.2 (.inr (List.mem_append.2 (.inl hb)))), (hI.newd b o (List.mem_append.2 (.inl hb))).2⟩, fun _ _ hb => (by cases hb), by
      have := hI.once
      rw [List.map_append, List.map_append, List.nodup_append] at this
      simpa using (List.nodup_append.1 this.2.1).1⟩
    have hb := hbody l pre x W1 hlen hI _ W1 ⟨by simp [Act.put, s.size], hag2, rfl, hst⟩
    refine wpIn_mono (wpIn_any hb) ?_
    intro e a2 w2 hq
    cases e with
    | normal =>
      have hq : Mem W1 (V (pre ++ [x])) [] w2 := hq
      have hnot : ∀ k, k ∉ (V []).map (·.1) → ∀ o, (k, o) ∉ V (pre ++ [x]) := fun k hk o ho => hk (by rw [← hnm (pre ++ [x])]; exact mem_names.2 ⟨o, ho⟩)
      refine ⟨⟨hq.size, fun k o hB hk ho => ?_⟩, fun k hk hne => hq.old k (Nat.lt_of_lt_of_le hk hsz1) (hnot k hne), hI.round hq (by rw [hnm, hnm pre]), Nat.le_trans hsz1 hq.size⟩
      · rw [hq.old k (Array.getElem?_eq_some_iff.1 hk).1 (fun o2 ho2 => ?_)]
        · exact hk
        · have := hlt (pre ++ [x]) k o2 (List.mem_append.2 (.inr (List.mem_append.2 (.inl ho2))))
          omega
    | exit id => exact hq.elim
    | goto l => exact hq.elim
    | ret => exact hq.elim
    | panic c => exact hq.elim
    | outgrown => exact hq.elim
  case done =>
    intro D xs W' hD hS ⟨hI, _⟩ hK
    refine h xs D hS _ W' ⟨s.size, s.agree, by rw [← s.defers], ?_⟩
    refine { hI with newd := fun b o hb => ?_, once := ?_ }
    · rcases List.mem_cons.1 hb with hb | hb
      · cases hb; exact ⟨Nat.le_trans s0.size hD, hK⟩
      · exact hI.newd b o hb
    · have hnd := hI.once
      rw [List.map_append, List.nodup_append] at hnd ⊢
      refine ⟨hnd.1, ?_, ?_⟩
      · rw [List.map_cons, List.nodup_cons]
        refine ⟨fun hm => ?_, hnd.2.1⟩
        obtain ⟨o, ho⟩ := mem_names.1 hm
        have := hlt xs D o (List.mem_append.2 (.inr ho))
        omega
      · intro b hb c hc
        rw [List.map_cons, List.mem_cons] at hc
        rcases hc with rfl | hc
        · obtain ⟨o, ho⟩ := mem_names.1 hb
          have := hlt xs b o (List.mem_append.2 (.inl ho))
          intro e; subst e; omega
        · exact hnd.2.2 b hb c hc
  case stop =>
    intro D c pre W' _ _ hf
    exact hf.elim

/-! ### Leaving such a function: the loop's mark, and one deferred call -/
structure CatchesIn (P : Program) (f : FuncId) (T : TypeId) (mis : Int → Value) : Prop where
  calm : ∀ b w, CallsDIn Fence.wide 8 P f #[.pointer (some ⟨b, 0, none⟩)] .returning w fun e u w' => (∃ v, e = .returned v) ∧ u = .returning ∧ Mem w [] [] w'
  wild : ∀ b k x w, w.heap[b]? = some (.cells #[x] T (0, 0)) → CallsDIn Fence.wide 8 P f #[.pointer (some ⟨b, 0, none⟩)] (.panicking [{ v := mis k, recovered := false }]) w fun e u w' =>
    (∃ v, e = .returned v) ∧ u = .panicking [{ v := mis k, recovered := true }] ∧ Mem w [(b, .cells #[.int .i64 k] T (0, 0))] [] w'
theorem calls_start_marks {f : FuncId} {fn : Func} {c : Code} {vs : List Value} {R : Ending → World → Prop} (hf : P.funcs[f]? = some fn) (hb : fn.body = some c) (hn : Nat.ble vs.length fn.ntmps = true)
    (h : RunC P (bodyPostM Fence.wide 9 P fn R) fn.ntmps c (args0 0 vs) [] W [] []) : Calls P f vs.toArray W R :=
  (callsIn_wide (n := 9)).1 (callsIn_of_wp_marks hf hb trivial (wpIn_wide.2 (h _ _ (start_st (Nat.le_of_ble_eq_true hn) (Mem.refl W)))) rfl)
theorem Mem.putNew {w : World} {D : Nat} {o : Obj} (o' : Obj) (h : Mem W chg ((D, o) :: news) w) : Mem W chg news (w.putObj D o') := by
  have hD := (h.newd D o (List.mem_cons_self ..)).1
  have hnd := h.once
  rw [List.map_append, List.map_cons, List.nodup_append, List.nodup_cons] at hnd
  refine ⟨h.os, h.tape, h.output, by simpa using h.size, fun k hk hc => ?_, fun b o2 hb => ?_, fun b o2 hb => ?_, ?_⟩
  · rw [World.putObj_heap_other (by omega)]; exact h.old k hk hc
  · have h1 := h.chgd b o2 hb
    exact ⟨h1.1, by rw [World.putObj_heap_other (by omega)]; exact h1.2⟩
  · have h1 := h.newd b o2 (List.mem_cons_of_mem _ hb)
    refine ⟨h1.1, ?_⟩
    rw [World.putObj_heap_other (fun e => hnd.2.1.1 (by subst e; exact mem_names.2 ⟨o2, hb⟩))]
    exact h1.2
  · rw [List.map_append, List.nodup_append]
    exact ⟨hnd.1, hnd.2.1.2, fun a ha b hb => hnd.2.2 a ha b (List.mem_cons_of_mem _ hb)⟩
theorem leavesM_calm {fn : Func} {f : FuncId} {T : TypeId} {mis : Int → Value} {v v0 : Value} {b : Nat} (hc : CatchesIn P f T mis) (he : Enters P f) (hv : ResVs P r news fn v) (hv0 : v = v0) {a : Act} {w : World} (hag : Agree a r) (hm : Mem W [] news w) :
    LeavesInM Fence.wide 9 P fn a.tmps (Pure v0 W) [{ target := .fn (.func f) #[], args := #[.pointer (some ⟨b, 0, none⟩)] }] .returning w := by
  refine ⟨by simp, .inr ⟨fun h => (by cases h), _, _, f, #[.pointer (some ⟨b, 0, none⟩)], rfl, by simp [invoke]; exact he _ _, fun _ _ => trivial, (hc.calm b w).mono ?_⟩⟩
  rintro e u w' ⟨⟨x, rfl⟩, rfl, hm'⟩
  have hm2 := hm.pass hm'
  exact ⟨v, hv.run hag (fun _ _ h => hm2.at (by simpa using h)), by rw [hv0], hm2.drop⟩
theorem RunE.retM {fn : Func} {f : FuncId} {T : TypeId} {mis : Int → Value} {v v0 : Value} {b D : Nat} {news2 : Blks} (hc : CatchesIn P f T mis) (he : Enters P f) (ht : Take (D, .deferred (some [])) news news2) (hv : ResVs P r news2 fn v) (hv0 : v = v0) :
    RunE (bodyPostM Fence.wide 9 P fn (Pure v0 W)) n .ret r [{ target := .collected D, args := #[] }, { target := .fn (.func f) #[], args := #[.pointer (some ⟨b, 0, none⟩)] }] W [] news := fun a w s => by
  show LeavesInM _ _ _ _ _ _ a.defers _ w
  rw [s.defers]
  have hm := s.mem.pick (Pick.cons ht rfl (Pick.refl news2))
  exact ⟨by simp, .inl ⟨D, _, rfl, run_takeDeferred (hm.newd D _ (List.mem_cons_self ..)).2, leavesM_calm hc he hv hv0 s.agree (hm.putNew _)⟩⟩
theorem RunE.panM {fn : Func} {f : FuncId} {T : TypeId} {mis : Int → Value} {v v0 x : Value} {b : Nat} {k : Int} {news' : Blks} (hc : CatchesIn P f T mis) (he : Enters P f) (hu : Upd news b (.cells #[x] T (0, 0)) (.cells #[.int .i64 k] T (0, 0)) news') (hv : ResVs P r news' fn v) (hv0 : v = v0) :
    RunE (bodyPostM Fence.wide 9 P fn (Pure v0 W)) n (.panic [{ v := mis k, recovered := false }]) r [{ target := .fn (.func f) #[], args := #[.pointer (some ⟨b, 0, none⟩)] }] W [] news := fun a w s => by
  show LeavesInM _ _ _ _ _ _ a.defers _ w
  rw [s.defers]
  refine ⟨by simp, .inr ⟨fun h => (by cases h), _, _, f, #[.pointer (some ⟨b, 0, none⟩)], rfl, by simp [invoke]; exact he _ _, fun _ _ => trivial, (hc.wild b k x w (s.mem.newd _ _ hu.mem).2).mono ?_⟩⟩
  rintro e u w' ⟨⟨y, rfl⟩, rfl, hm⟩
  have hm2 := s.mem.turn_new hu hm
  exact ⟨v, hv.run s.agree (fun _ _ h => hm2.at (by simpa using h)), by rw [hv0], hm2.drop⟩

theorem RunLR.ways {l : List Oper} {b : Bool} {dj : Nat} (hj : rget r dj = some (.bool b)) (h1 : b = true → RunLR ro P ops Q n l ((dj, .bool true) :: r) ds W chg news) (h2 : b = false → RunLR ro P ops Q n l ((dj, .bool false) :: r) ds W chg news) : RunLR ro P ops Q n l r ds W chg news := fun a w s => by
  cases b with
  | true => exact h1 rfl a w (s.know hj rfl)
  | false => exact h2 rfl a w (s.know hj rfl)
theorem yieldAt_any {m k l : Nat} {args : Array Value} {w : World} {R R' : Ending → World → Prop} (h : YieldAt (Fr none) m P l args w R) (hR : ∀ e w', R e w' → R' e w') : YieldAt (Fr none) k P l args w R' := by
  obtain ⟨fn, tmps, assign, body, h1, h2⟩ := h
  exact ⟨fn, tmps, assign, body, h1, trivial, fun c cs _ => let ⟨e, w', r, s⟩ := h2.2 c cs (fun _ hd => by cases hd); ⟨e, w', hR _ _ r, s⟩⟩
theorem Sl.kp {W W' : World} {p : Option Addr} {b o sz : Nat} {xs : List (List Value)} (h : Sl W p b o sz xs) (hk : xs ≠ [] → W'.heap[b]? = W.heap[b]?) : Sl W' p b o sz xs :=
  ⟨h.at', h.len, fun i hi j hj => by rw [World.cell?_of_block (a := ⟨b, o + i * sz + j, none⟩) (hk (by rintro rfl; simp at hi))]; exact h.cell i hi j hj⟩
theorem Mem.apart {w : World} {V n0 : Blks} (h : Mem W chg (V ++ n0) w) {b : Nat} {o : Obj} (hb : (b, o) ∈ n0) : b < w.heap.size ∧ b ∉ V.map (·.1) := by
  refine ⟨h.lt_new (List.mem_append.2 (.inr (List.mem_append.2 (.inr hb)))), fun hc => ?_⟩
  have hnd := h.once
  rw [List.map_append, List.map_append, List.nodup_append] at hnd
  exact (List.nodup_append.1 hnd.2.1).2.2 b hc b (mem_names.2 ⟨o, hb⟩) rfl
theorem Mem.oldApart {w : World} {V n0 : Blks} (h : Mem W chg (V ++ n0) w) {b : Nat} (hb : b < W.heap.size) : b < w.heap.size ∧ b ∉ V.map (·.1) := by
  refine ⟨Nat.lt_of_lt_of_le hb h.size, fun hc => ?_⟩
  obtain ⟨o, ho⟩ := mem_names.1 hc
  have := (h.newd b o (List.mem_append.2 (.inl ho))).1
  omega
theorem Sl.mono' {w : World} {p : Option Addr} {b o sz : Nat} {xs : List (List Value)} (h : Sl W p b o sz xs) (hz : 0 < sz) (hm : Mem W chg news w) (hc : xs ≠ [] → ∀ ob, (b, ob) ∉ chg) : Sl w p b o sz xs := by
  cases xs with
  | nil => exact ⟨h.at', h.len, fun i hi => by simp at hi⟩
  | cons x xs => exact h.mono hz hm (hc (by simp))
theorem Sl.lt0 {p : Option Addr} {b o sz : Nat} {xs : List (List Value)} (h : Sl W p b o sz xs) (hz : 0 < sz) (hx : xs ≠ []) : b < W.heap.size := h.lt hz (i := 0) (List.length_pos_iff.2 hx)
end
end Go.Eng
/- The engine: arguments that are read as data, by their shapes; and a law's statement out of its walk. No program is in sight. -/
namespace Go.Eng
open Go Go.RowKit Go.ChangeShapes Go.WideShapes Go.ChangeAt

/-- A type's shape: numbers, truth values, texts, structs of these, and slices of them. -/
inductive Sh where
  | int (k : IntKind)
  | bool
  | str
  | st (l : List Sh)
  | sl (e : Sh)
mutual
def Sh.size : Sh → Nat
  | .st l => sizes l
  | _ => 1
def sizes : List Sh → Nat
  | [] => 0
  | s :: l => s.size + sizes l
end
def offsB (P : Program) : Nat → List Field → List Sh → Bool
  | _, [], [] => true
  | o, f :: fs, s :: l => f.offset == o && P.cellsOf f.type == s.size && offsB P (o + s.size) fs l
  | _, _, _ => false
def shapeB (P : Program) : Nat → TypeId → Option Sh
  | 0, _ => none
  | n + 1, t => match P.underlying t with
    | some .bool => some .bool
    | some (.int k) => some (.int k)
    | some .string => some .str
    | some (.slice e) => match shapeB P n e with
      | some s => if P.cellsOf e = s.size ∧ 0 < s.size then some (.sl s) else none
      | none => none
    | some (.struct fs) => match fs.toList.mapM (fun f => shapeB P n f.type) with
      | some l => if offsB P 0 fs.toList l = true ∧ P.cellsOf t = sizes l then some (.st l) else none
      | none => none
    | _ => none

/-- Cells that read as a shape. -/
inductive Rd (w : World) : Sh → List Value → Prop
  | int {k : IntKind} {n : Int} (h : (Lit.int k n).wf = true) : Rd w (.int k) [.int k n]
  | bool {b : Bool} : Rd w .bool [.bool b]
  | str {s : ByteArray} (h : s.size ≤ maxLen) : Rd w .str [.string s]
  | rec0 : Rd w (.st []) []
  | recS {s : Sh} {l : List Sh} {cs ds : List Value} (h : Rd w s cs) (hl : Rd w (.st l) ds) : Rd w (.st (s :: l)) (cs ++ ds)
  | slNil {e : Sh} : Rd w (.sl e) [.slice none 0 0]
  | sl {e : Sh} {a : Addr} {cap : Nat} {xs : List (List Value)} (h : Sl w (some a) a.block a.off e.size xs) (hl : xs.length ≤ cap) (hc : cap ≤ maxLen) (hx : ∀ x ∈ xs, Rd w e x) : Rd w (.sl e) [.slice (some a) xs.length cap]
def Sh.val : Sh → List Value → Value
  | .st _, cs => .agg cs.toArray
  | _, cs => cs.headD undef
inductive RdAll (w : World) : List Sh → List Value → Prop
  | nil : RdAll w [] []
  | cons {s : Sh} {l : List Sh} {cs : List Value} {vs : List Value} (h : Rd w s cs) (hl : RdAll w l vs) : RdAll w (s :: l) (s.val cs :: vs)

theorem list_of {α : Type} {p : Nat → α → Prop} : ∀ n : Nat, (∀ i, i < n → ∃ x, p i x) → ∃ xs : List α, xs.length = n ∧ ∀ i (h : i < xs.length), p i xs[i]
  | 0, _ => ⟨[], rfl, fun i h => by simp at h⟩
  | n + 1, h => by
    obtain ⟨xs, hl, hx⟩ := list_of n (fun i hi => h i (by omega))
    obtain ⟨x, hp⟩ := h n (by omega)
    refine ⟨xs ++ [x], by simp [hl], fun i hi => ?_⟩
    rw [List.getElem_append]
    split
    · exact hx i _
    · simp only [List.length_append, List.length_singleton] at hi
      obtain rfl : i = n := by omega
      simpa using hp

section
variable {H : Type} {enc : TypeId × Value → H} {P : Program} {w : World} {base : Nat} {spare : Nat → Bool} {held : Bool}
theorem rd_fields {cs : List Value} : ∀ (fs : List Field) (l : List Sh) (o : Nat), offsB P o fs l = true → (∀ (i : Nat) (f : Field) (s : Sh), fs[i]? = some f → l[i]? = some s → Rd w s ((cs.drop f.offset).take (P.cellsOf f.type))) → cs.length = o + sizes l → Rd w (.st l) (cs.drop o)
  | [], [], o, _, _, hl => by rw [List.drop_of_length_le (by simp [sizes] at hl; omega)]; exact .rec0
  | [], _ :: _, _, h, _, _ => by simp [offsB] at h
  | _ :: _, [], _, h, _, _ => by simp [offsB] at h
  | f :: fs, s :: l, o, h, hr, hl => by
    simp only [offsB, Bool.and_eq_true, beq_iff_eq] at h
    obtain ⟨⟨h1, h2⟩, h3⟩ := h
    have r0 := hr 0 f s rfl rfl
    rw [h1, h2] at r0
    have r1 := rd_fields fs l (o + s.size) h3 (fun i f' s' hf hs => hr (i + 1) f' s' (by simpa using hf) (by simpa using hs)) (by simp only [sizes] at hl; omega)
    have e : cs.drop o = (cs.drop o).take s.size ++ cs.drop (o + s.size) := by
      rw [← List.drop_drop, List.take_append_drop]
    rw [e]
    exact .recS r0 r1
theorem rd_of : ∀ (n fuel : Nat) (t : TypeId) (sh : Sh) (cs : List Value) (x : DataW H × List MemPlace), shapeB P n t = some sh → DataW.trod enc P w base spare held fuel t cs = some x → Rd w sh cs := by
  intro n
  induction n with
  | zero => intro fuel t sh cs x hs; cases hs
  | succ n ih =>
    intro fuel t sh cs x hs h
    unfold shapeB at hs
    split at hs
    · rename_i hu
      cases hs
      cases fuel with
      | zero => simp [DataW.trod] at h
      | succ fuel =>
        unfold DataW.trod at h
        rw [hu] at h
        split at h <;> simp_all <;> exact .bool
    · rename_i k hu
      cases hs
      cases fuel with
      | zero => simp [DataW.trod] at h
      | succ fuel =>
        unfold DataW.trod at h
        rw [hu] at h
        split at h <;> simp_all
        rename_i h1
        obtain ⟨rfl, rfl⟩ := h1
        exact .int h.1.2
    · rename_i hu
      cases hs
      cases fuel with
      | zero => simp [DataW.trod] at h
      | succ fuel =>
        unfold DataW.trod at h
        rw [hu] at h
        split at h <;> simp_all
        exact .str h.1
    · rename_i e hu
      split at hs
      · rename_i s he
        split at hs
        · rename_i hc
          cases hs
          rcases Deep.open_slice hu h with ⟨rfl, _⟩ | ⟨a, len, cap, m, n', D, Pl, rfl, hb, hl, hm, hmm, hx, hi⟩
          · exact .slNil
          · have hle : len ≤ m := by rw [hmm]; split <;> omega
            obtain ⟨xs, hxl, hxs⟩ := list_of (p := fun i cs' => w.cells? base (a.add (i * P.cellsOf e)) (P.cellsOf e) = some cs' ∧ DataW.trod enc P w base spare held n' e cs' = some (D i, Pl i)) len (fun i h => hi i (by omega))
            subst hxl
            refine .sl ⟨fun hne => ?_, fun x hx => ?_, fun i hi j hj => ?_⟩ hl hm (fun x hx => ?_)
            · have h0 : 0 < xs.length := List.length_pos_iff.2 hne
              obtain ⟨_, h2, h3⟩ := World.cells?_some (hxs 0 h0).1
              have h4 := h3 0 (by omega)
              rw [List.getElem?_eq_getElem (by omega)] at h4
              have h5 := World.cell?_spot h4
              obtain ⟨b, o, sp⟩ := a
              simp only [Nat.zero_mul, Addr.add, if_true] at h5
              rw [h5]
            · obtain ⟨i, hi, rfl⟩ := List.getElem_of_mem hx
              have := (World.cells?_some (hxs i hi).1).2.1
              omega
            · obtain ⟨_, h2, h3⟩ := World.cells?_some (hxs i hi).1
              rw [hc.1] at h2 h3
              have h4 := h3 j hj
              rw [← h4]
              have hsp : a.spot = none := by
                obtain ⟨_, h2', h3'⟩ := World.cells?_some (hxs 0 (by omega)).1
                have h4' := h3' 0 (by omega)
                rw [List.getElem?_eq_getElem (by omega)] at h4'
                have h5 := World.cell?_spot h4'
                simpa [Addr.add] using h5
              obtain ⟨b, o, sp⟩ := a
              simp only at hsp
              subst hsp
              congr 1
              unfold Addr.add
              by_cases hz : i * s.size = 0 <;> by_cases hz2 : j = 0 <;> simp [hz, hz2]
            · obtain ⟨i, hi, rfl⟩ := List.getElem_of_mem hx
              exact ih _ _ _ _ _ he (hxs i hi).2
        · cases hs
      · cases hs
    · rename_i fs hu
      split at hs
      · rename_i l he
        split at hs
        · rename_i hc
          cases hs
          obtain ⟨xs, n', _, _, hlen, hxl, hf⟩ := DataW.trod_struct hu h
          have hll : ∀ (i : Nat) (f : Field) (s : Sh), fs.toList[i]? = some f → l[i]? = some s → shapeB P n f.type = some s := by
            clear hc hf hxl
            generalize fs.toList = fl at he
            induction fl generalizing l with
            | nil => intro i f s h; simp at h
            | cons f0 fl ihf =>
              simp only [List.mapM_cons, Option.bind_eq_bind, Option.bind_eq_some_iff, Option.pure_def, Option.some.injEq] at he
              obtain ⟨s0, h0, l0, hl0, rfl⟩ := he
              intro i f s hi hs
              cases i with
              | zero => simp at hi hs; subst hi; subst hs; exact h0
              | succ i => exact ihf l0 hl0 i f s (by simpa using hi) (by simpa using hs)
          have := rd_fields (cs := cs) fs.toList l 0 hc.1 (fun i f s hi hs => by
            have h1 := hf i f (by simpa using hi)
            have hlt : i < fs.size := by have := (List.getElem?_eq_some_iff.1 hi).1; simpa using this
            rw [List.getElem?_eq_getElem (by omega)] at h1
            exact ih _ _ _ _ _ (hll i f s hi hs) h1) (by omega)
          simpa using this
        · cases hs
      · cases hs
    · cases hs
theorem val_of {n : Nat} {r : Reach} {b0 : Nat} {t : TypeId} {sh : Sh} {v : Value} (hs : shapeB P n t = some sh) (hv : Value.okWide P w r b0 t v) : v = sh.val v.cells.toList := by
  cases n with
  | zero => cases hs
  | succ n =>
    unfold shapeB at hs
    split at hs
    · rename_i hu; cases hs; obtain ⟨b, rfl⟩ := okWide_bool hu hv; rfl
    · rename_i hu; cases hs; obtain ⟨b, rfl⟩ := okWide_int hu hv; rfl
    · rename_i hu; cases hs; obtain ⟨b, rfl⟩ := okWide_string hu hv; rfl
    · rename_i hu
      obtain ⟨a, l, c, rfl⟩ := okWide_slice hu hv
      split at hs
      · split at hs
        · cases hs; rfl
        · cases hs
      · cases hs
    · rename_i hu
      obtain ⟨cs, rfl, _⟩ := okWide_struct hu hv
      split at hs
      · split at hs
        · cases hs; simp [Sh.val, Value.cells]
        · cases hs
      · cases hs
    · cases hs
theorem rdAll_of {n : Nat} {r : Reach} {b0 : Nat} : ∀ {ts : List TypeId} {shs : List Sh} {vs : List Value} {ds : List (DataW H)} {ps : List MemPlace}, ts.mapM (shapeB P n) = some shs →
    (∀ (j : Nat) t v, ts[j]? = some t → vs[j]? = some v → Value.okWide P w r b0 t v) → DataW.TrodAll enc P w base spare held ts vs ds ps → RdAll w shs vs
  | [], shs, vs, ds, ps, hs, _, h => by
    obtain ⟨rfl, _, _⟩ := trodAll_nil h
    simp at hs; subst hs; exact .nil
  | t :: ts, shs, vs, ds, ps, hs, hv, h => by
    obtain ⟨v, vs', d, ds', p, q, rfl, rfl, rfl, h0, hr⟩ := trodAll_cons h
    simp only [List.mapM_cons, Option.bind_eq_bind, Option.bind_eq_some_iff, Option.pure_def, Option.some.injEq] at hs
    obtain ⟨s0, hs0, l0, hl0, rfl⟩ := hs
    obtain ⟨fuel, hf⟩ := h0
    have hr' := rd_of n fuel t s0 _ _ hs0 hf
    have hv0 := val_of hs0 (hv 0 t v rfl rfl)
    have ih := rdAll_of hl0 (fun j t' v' hj hv' => hv (j + 1) t' v' (by simpa using hj) (by simpa using hv')) hr
    rw [hv0]
    exact .cons hr' ih
end

/-! ### The law's statement -/
theorem trodAll_below {H : Type} {enc : TypeId × Value → H} {P : Program} (hl : laidOutB P = true) {W W' : World} (hb : Below W.heap.size W W') : ∀ {ts : List TypeId} {vs : List Value} {ds : List (DataW H)} {ps : List MemPlace},
    ts.all (fun t => P.readableRec t && decide (t < P.types.size)) = true → DataW.TrodAll enc P W 0 (fun _ => true) true ts vs ds ps → DataW.TrodAll enc P W' 0 (fun b => decide (b < W.heap.size)) true ts vs ds ps
  | [], [], [], _, _, h => h
  | [], _ :: _, _, _, _, h => h.elim
  | [], [], _ :: _, _, _, h => h.elim
  | _ :: _, [], _, _, _, h => h.elim
  | _ :: _, _ :: _, [], _, _, h => h.elim
  | t :: ts, v :: vs, d :: ds, ps, hp, h => by
    obtain ⟨p, q, h0, hr, rfl⟩ := h
    simp only [List.all_cons, Bool.and_eq_true, decide_eq_true_eq] at hp
    have hlt : ∀ x ∈ p, x.block < W.heap.size := by obtain ⟨m, hm⟩ := h0; exact DataW.trod_lt m _ _ _ hm
    exact ⟨p, q, Below.trod hl hp.1.1 hp.1.2 h0 hb hlt, trodAll_below hl hb (by simpa [List.all_eq_true] using hp.2) hr, rfl⟩

theorem law_contract {H : Type} {enc : TypeId × Value → H} {P : Program} {f : Func} {s : ChangeSpec} {n : Nat} {shs : List Sh} {tb : TypeId} {F : FuncId} (hl : laidOutB P = true) (hsh : f.params.toList.mapM (shapeB P n) = some shs)
    (hp : f.params.toList.all (fun t => P.readableRec t && decide (t < P.types.size)) = true) (hr : f.resultTypes = #[tb]) (hb : P.underlying tb = some .bool) (hvars : s.vars = [])
    (hfn : ∀ ds : List (DataW H), ds.length = f.params.toList.length → s.fn H (ds ++ []) = { results := [.lit (.bool true)], args := ds })
    (walk : ∀ (W : World) (vs : List Value), RdAll W shs vs → Calls P F vs.toArray W (Pure (.bool true) W))
    {W : World} {base : Nat} {args : Array Value} {ds gs : List (DataW H)} {before : List MemPlace} (hval : ∀ (j : Nat) t v, f.params[j]? = some t → args[j]? = some v → Value.okWide P W .any base t v)
    (hW : DataW.Whole enc P f.params.toList s.vars false W args.toList ds gs before) :
    Calls P F args W fun e W' => ∃ v, e = .returned v ∧ s.post enc P f false true false false W args v W' := by
  have hW' := hW
  obtain ⟨p, q, hA, hV, rfl, hfz, hnd⟩ := hW
  rw [hvars] at hV
  obtain ⟨rfl, rfl⟩ := trodVars_none hV
  have hrd : RdAll W shs args.toList := rdAll_of hsh (fun j t v hj hv => hval j t v (by simpa using hj) (by simpa using hv)) hA
  have hlen : ds.length = f.params.toList.length := by
    clear hW' hval hrd hfn hp hsh hfz hnd hV
    generalize f.params.toList = ts at hA
    generalize args.toList = vs at hA
    induction ts generalizing vs ds p with
    | nil => obtain ⟨_, rfl, _⟩ := trodAll_nil hA; rfl
    | cons t ts ih =>
      obtain ⟨v, vs', d, ds', p, q, rfl, rfl, rfl, h0, hr⟩ := trodAll_cons hA
      simp [ih _ _ hr]
  refine (walk W args.toList hrd).mono fun e W' ⟨he, hm⟩ => ?_
  subst he
  have bel := hm.below
  refine ⟨_, rfl, ds, [], p ++ [], [], p, [], hW', ?_, ?_, ?_, bel.frame _, fun h => by cases h⟩
  · rw [hfn ds hlen, hr]
    exact trodAll_mk1 (shut_bool hb _)
  · rw [hfn ds hlen]
    exact trodAll_below hl bel hp hA
  · rw [hvars, hfn ds hlen]
    rfl
end Go.Eng
/- The engine: more facts on one operation. No program is in sight. -/
namespace Go.Eng
open Go Go.RowKit

section
variable {P : Program} {r : Regs} {W : World} {chg news : Blks}
variable {ty : TypeId} {pos : String} {after : Array Edge} {dst : Option Tmp} {gd : Option (Nat × Bool)}
def boolB (P : Program) (T : TypeId) : Bool := match P.underlying T with | some .bool => !P.eqGuardType P.depth T | _ => false
theorem boolB_und {T : TypeId} (h : boolB P T = true) : P.underlying T = some .bool ∧ P.eqGuardType P.depth T = false := by
  unfold boolB at h
  split at h
  · rename_i hu; exact ⟨hu, by simpa using h⟩
  · cases h
theorem Val.eql_bool {x y : Operand} {T yt : TypeId} {a b : Bool} (hx : rev r x = some (.bool a)) (hy : rev r y = some (.bool b)) (h : boolB P T = true) :
    Val P r W chg news { dst, op := .binOp .eql T x y yt, type := ty, pos, after, guard := gd } (.bool (a == b)) :=
  ⟨fun ac w ha _ => by
    obtain ⟨hu, hg⟩ := boolB_und h
    have h1 : (Op.equal T (.bool a) (.bool b)).run P w = .ok (a == b) w := by
      show (Op.equalIn (9999 + 1) T (.bool a) (.bool b)).run P w = _
      rw [Op.equalIn]
      simp [run_underlying hu]
    simp [execOp, ha.eval hx, ha.eval hy, eqGuard, hg, binOp, h1]⟩
theorem Val.neq_bool {x y : Operand} {T yt : TypeId} {a b : Bool} (hx : rev r x = some (.bool a)) (hy : rev r y = some (.bool b)) (h : boolB P T = true) :
    Val P r W chg news { dst, op := .binOp .neq T x y yt, type := ty, pos, after, guard := gd } (.bool (!(a == b))) :=
  ⟨fun ac w ha _ => by
    obtain ⟨hu, hg⟩ := boolB_und h
    have h1 : (Op.equal T (.bool a) (.bool b)).run P w = .ok (a == b) w := by
      show (Op.equalIn (9999 + 1) T (.bool a) (.bool b)).run P w = _
      rw [Op.equalIn]
      simp [run_underlying hu]
    simp [execOp, ha.eval hx, ha.eval hy, eqGuard, hg, binOp, h1]⟩
end
end Go.Eng
/- The engine: slices that the function makes by append. No program is in sight. -/
namespace Go.Eng
open Go Go.RowKit

/-- A slice of the function's own: none, or its block, its capacity, and the cells behind its elements. -/
abbrev Own := Option (Nat × Nat × List Value)
def ownV (x : Own) (n : Nat) : Value := match x with
  | none => .slice none 0 0
  | some (b, c, _) => .slice (some ⟨b, 0, none⟩) n c
def ownB (e : TypeId) (x : Own) (xs : List Value) : Blks := match x with
  | none => []
  | some (b, _, r) => [(b, .cells (xs ++ r).toArray e (0, 0))]
def ownRow (x : Own) : Option Nat := match x with
  | none => none
  | some (b, _, _) => some b
structure OwnOk (sz : Nat) (x : Own) (n : Nat) (xs : List Value) : Prop where
  len : xs.length = n * sz
  nil : x = none → n = 0
  cap : ∀ b c r, x = some (b, c, r) → n ≤ c ∧ c ≤ maxLen ∧ (xs ++ r).length = c * sz
theorem OwnOk.start {sz : Nat} : OwnOk sz none 0 [] := ⟨by simp, fun _ => rfl, fun _ _ _ h => by cases h⟩
theorem OwnOk.has {sz : Nat} {x : Own} {n : Nat} {xs : List Value} (h : OwnOk sz x n xs) (hn : 0 < n) : ∃ b c r, x = some (b, c, r) ∧ n ≤ c ∧ c ≤ maxLen ∧ (xs ++ r).length = c * sz := by
  match x, h with
  | .none, h => have := h.nil rfl; omega
  | .some (b, c, r), h => exact ⟨b, c, r, rfl, h.cap b c r rfl⟩
theorem OwnOk.owns {sz : Nat} {x : Own} {n : Nat} {xs : List Value} {e : TypeId} {w : World} {base : Nat} (h : OwnOk sz x n xs) (hm : ∀ b o, (b, o) ∈ ownB e x xs → base ≤ b ∧ w.heap[b]? = some o) : w.ownsRow base e sz (ownV x n) n xs := by
  match x, h with
  | .none, h => exact ⟨h.len, .inl ⟨rfl, h.nil rfl⟩⟩
  | .some (b, c, r), h =>
    obtain ⟨h1, h2⟩ := hm b (.cells (xs ++ r).toArray e (0, 0)) (by simp [ownB])
    obtain ⟨c1, c2, c3⟩ := h.cap b c r rfl
    exact ⟨h.len, .inr ⟨b, c, _, rfl, h1, h2, c1, c2, by simpa using c3, by simp [← h.len]⟩⟩

/-- One block among the new ones is another, or lies elsewhere. -/
theorem Mem.swap {W w w' : World} {chg A B : Blks} {e : TypeId} {x y : Own} {xs ys : List Value} (h : Mem W chg (A ++ (ownB e x xs ++ B)) w) (hg : w.grownBy w' (ownRow x))
    (hy : ∀ b c r, y = some (b, c, r) → ((∃ c' r', x = some (b, c', r')) ∨ w.heap.size ≤ b) ∧ w'.heap[b]? = some (.cells (ys ++ r).toArray e (0, 0))) : Mem W chg (A ++ (ownB e y ys ++ B)) w' := by
  have hrow : ∀ k, (ownRow x) = some k → W.heap.size ≤ k ∧ (∀ o, (k, o) ∉ chg) ∧ (∀ o, (k, o) ∉ A) ∧ (∀ o, (k, o) ∉ B) := by
    intro k hk
    match x, hk with
    | .some (b, c, r), hk =>
      obtain rfl : b = k := Option.some.inj hk
      have h1 := h.once
      refine ⟨(h.newd b (.cells (xs ++ r).toArray e (0, 0)) (by simp [ownB])).1, fun o ho => ?_, fun o ho => ?_, fun o ho => ?_⟩
      all_goals
        simp only [ownB, List.map_append, List.map_cons, List.map_nil, List.nodup_append, List.mem_append, List.mem_map, List.mem_cons, List.not_mem_nil, or_false] at h1
      · exact h1.2.2 b ⟨_, ho, rfl⟩ b (.inr (.inl rfl)) rfl
      · exact h1.2.1.2.2 b ⟨_, ho, rfl⟩ b (.inl rfl) rfl
      · exact h1.2.1.2.1.2.2 b rfl b ⟨_, ho, rfl⟩ rfl
  have keep : ∀ k o, w.heap[k]? = some o → (ownRow x) ≠ some k → w'.heap[k]? = some o := fun k o hk hne => by rw [hg.block k (lt_of_block hk) (fun e => hne e.symm)]; exact hk
  refine ⟨hg.os.trans h.os, hg.tape.trans h.tape, hg.output.trans h.output, Nat.le_trans h.size hg.size, fun k hk hc => ?_, fun b o hb => ?_, fun b o hb => ?_, ?_⟩
  · rw [hg.block k (by have := h.size; omega) (fun e => by have := (hrow k e.symm).1; omega)]
    exact h.old k hk hc
  · have h1 := h.chgd b o hb
    exact ⟨h1.1, keep b o h1.2 (fun e => (hrow b e).2.1 o hb)⟩
  · rcases List.mem_append.1 hb with ha | hb
    · have h1 := h.newd b o (List.mem_append_left _ ha)
      exact ⟨h1.1, keep b o h1.2 (fun e => (hrow b e).2.2.1 o ha)⟩
    · rcases List.mem_append.1 hb with ho | hB
      · match y, ho with
        | .some (b', c', r'), ho =>
          simp only [ownB, List.mem_cons, List.not_mem_nil, or_false, Prod.mk.injEq] at ho
          obtain ⟨rfl, rfl⟩ := ho
          obtain ⟨h1, h2⟩ := hy b c' r' rfl
          refine ⟨?_, h2⟩
          rcases h1 with ⟨c, r, rfl⟩ | h1
          · exact (hrow b rfl).1
          · have := h.size; omega
      · have h1 := h.newd b o (List.mem_append_right _ (List.mem_append_right _ hB))
        exact ⟨h1.1, keep b o h1.2 (fun e => (hrow b e).2.2.2 o hB)⟩
  · have h1 := h.once
    have hlt : ∀ b o, (b, o) ∈ chg ++ (A ++ (ownB e x xs ++ B)) → b < w.heap.size := fun b o hb => h.lt_new hb
    match y with
    | .none =>
      refine h1.sublist ?_
      simp only [ownB, List.nil_append]
      exact ((List.Sublist.refl _).append ((List.Sublist.refl _).append (List.sublist_append_right _ _))).map _
    | .some (b', c', r') =>
      obtain ⟨h2, _⟩ := hy b' c' r' rfl
      have hne : (∀ o, (b', o) ∉ chg) ∧ (∀ o, (b', o) ∉ A) ∧ (∀ o, (b', o) ∉ B) := by
        rcases h2 with ⟨c, r, rfl⟩ | h2
        · exact (hrow b' rfl).2
        · refine ⟨fun o ho => ?_, fun o ho => ?_, fun o ho => ?_⟩
          · have := hlt b' o (List.mem_append_left _ ho); omega
          · have := hlt b' o (List.mem_append_right _ (List.mem_append_left _ ho)); omega
          · have := hlt b' o (List.mem_append_right _ (List.mem_append_right _ (List.mem_append_right _ ho))); omega
      have h3 : ((chg ++ (A ++ B)).map (·.1)).Nodup := h1.sublist (((List.Sublist.refl _).append ((List.Sublist.refl _).append (List.sublist_append_right _ _))).map _)
      simp only [ownB, List.map_append, List.map_cons, List.map_nil, List.nodup_append, List.mem_append, List.mem_map, List.mem_cons, List.not_mem_nil, or_false, List.nodup_cons, List.nodup_nil, not_false_eq_true, and_true, true_and] at h3 ⊢
      obtain ⟨a1, ⟨a2, a3, a4⟩, a5⟩ := h3
      refine ⟨a1, ⟨a2, ⟨a3, ?_⟩, ?_⟩, ?_⟩
      · rintro _ rfl z ⟨⟨k, o⟩, hk, rfl⟩ he
        exact hne.2.2 o (by rw [he]; exact hk)
      · rintro u ⟨⟨k, o⟩, hk, rfl⟩ z (rfl | hz) he
        · exact hne.2.1 o (by rw [← he]; exact hk)
        · exact a4 _ ⟨_, hk, rfl⟩ z hz he
      · rintro u ⟨⟨k, o⟩, hk, rfl⟩ z (hz | rfl | hz) he
        · exact a5 _ ⟨_, hk, rfl⟩ z (.inl hz) he
        · exact hne.1 o (by rw [← he]; exact hk)
        · exact a5 _ ⟨_, hk, rfl⟩ z (.inr hz) he

section
variable {P : Program} {ops : Array Oper} {Q : Exit → Act → World → Prop} {n : Nat} {r : Regs} {ds : List Deferred} {W : World} {chg news : Blks} {rest : List Oper}
variable {d : Nat} {ty : TypeId} {pos : String} {after : Array Edge} {dst : Option Tmp} {gd : Option (Nat × Bool)}

/-- What append asks of the tables: the element's type, its cells, its bytes. -/
def apB (P : Program) (T : TypeId) : Option (TypeId × Nat × Nat) :=
  match P.underlying T with
  | some (.slice e) => match P.info? e with
    | some i => match i.zero with
      | some z => if z.cells.size = i.size ∧ 0 < i.size then some (e, i.size, i.bytes) else none
      | none => none
    | none => none
  | _ => none
theorem apB_spec {T e : TypeId} {sz by_ : Nat} (h : apB P T = some (e, sz, by_)) : P.underlying T = some (.slice e) ∧ ∃ i z, P.info? e = some i ∧ i.zero = some z ∧ i.size = sz ∧ i.bytes = by_ ∧ z.cells.size = sz ∧ 0 < sz := by
  unfold apB at h
  split at h
  · rename_i e' hu
    split at h
    · rename_i i hi
      split at h
      · rename_i z hz
        split at h
        · rename_i hc
          cases h
          exact ⟨hu, i, z, hi, hz, rfl, rfl, hc.1, hc.2⟩
        · cases h
      · cases h
    · cases h
  · cases h
/-- What an append comes to. -/
theorem append_run {T e : TypeId} {sz by_ tt : Nat} (hT : apB P T = some (e, sz, by_)) {A B : Blks} {x : Own} {k m c : Nat} {q : Option Addr} {xs ys : List Value} {w : World} (hm : Mem W chg (A ++ (ownB e x xs ++ B)) w) (hx : OwnOk sz x k xs)
    (hy : ys.length = m * sz) (hq : q = none → m = 0 ∧ c = 0) (hc : ∀ j u, ys[j]? = some u → ∃ ad, q = some ad ∧ w.cell? (ad.add j) = some u) (h1 : ∀ u ∈ ys, u.oneCell' = true) (b1 : k + m ≤ maxLen) (b2 : (k + m) * by_ ≤ 140737488355328) :
    ∃ y w', (Builtin.append_ #[T, T] tt #[ownV x k, .slice q m c]).run P w = .ok (ownV y (k + m)) w' ∧ OwnOk sz y (k + m) (xs ++ ys) ∧ Mem W chg (A ++ (ownB e y (xs ++ ys) ++ B)) w' := by
  obtain ⟨hu, i, z, hi, hz, rfl, rfl, hzs, hsz⟩ := apB_spec hT
  have hown : w.ownsRow W.heap.size e i.size (ownV x k) k xs := hx.owns (fun b o hb => hm.newd b o (List.mem_append_right _ (List.mem_append_left _ hb)))
  have hlen : (xs ++ ys).length = (k + m) * i.size := by rw [List.length_append, hx.len, hy, Nat.add_mul]
  cases q with
  | none =>
    obtain ⟨rfl, rfl⟩ := hq rfl
    obtain rfl : ys = [] := List.eq_nil_of_length_eq_zero (by simpa using hy)
    refine ⟨x, w, ?_, ?_, ?_⟩
    · exact run_append_owned_none (P := P) w W.heap.size T tt e i i.size hu hi _ k xs hown
    · simpa using hx
    · simpa using hm
  | some ad =>
    have hc' : ∀ j u, ys[j]? = some u → w.cell? (ad.add j) = some u := fun j u h => by obtain ⟨ad', h2, h3⟩ := hc j u h; cases h2; exact h3
    match x, hx, hm, hown with
    | .none, hx, hm, hown =>
      have hk := hx.nil rfl
      subst hk
      obtain rfl : xs = [] := List.eq_nil_of_length_eq_zero (by simpa using hx.len)
      obtain ⟨v', w', hrun, ho, hg, hiff⟩ := run_append_own (P := P) w w.heap.size T tt e i z i.size i.bytes hu hi hz rfl rfl hzs hsz (.slice none 0 0) 0 [] (World.ownsRow_nil w _ e i.size) ad m c ys hy hc' h1 b1 b2 (Nat.le_refl _)
      rcases ho.2 with ⟨rfl, h0⟩ | ⟨g, cap, cur, rfl, hge, hgb, hnc, hcm, hcs, htk⟩
      · refine ⟨none, w', hrun, ⟨hlen, fun _ => h0, fun _ _ _ h => by cases h⟩, ?_⟩
        exact hm.swap hg (fun b c r h => by cases h)
      · refine ⟨.some (g, cap, cur.toList.drop ((0 + m) * i.size)), w', hrun, ⟨hlen, fun h => (by cases h), fun b c r h => ?_⟩, ?_⟩
        · cases h
          refine ⟨hnc, hcm, ?_⟩
          rw [← htk, List.take_append_drop]; simpa using hcs
        · refine hm.swap hg (fun b c r h => ?_)
          cases h
          refine ⟨.inr hge, ?_⟩
          rw [← htk, List.take_append_drop]; simpa using hgb
    | .some (b, cap, r), hx, hm, hown =>
      obtain ⟨c1, c2, c3⟩ := hx.cap b cap r rfl
      have hbb := (hm.newd b (.cells (xs ++ r).toArray e (0, 0)) (List.mem_append_right _ (List.mem_append_left _ (by simp [ownB])))).2
      by_cases hfit : k + m ≤ cap
      · obtain ⟨w', hrun, ho, hg⟩ := run_append_fits (P := P) w W.heap.size T tt e i i.size hu hi rfl b k cap xs hown ad m c ys hy hc' h1 hfit
        rcases ho.2 with ⟨h0, _⟩ | ⟨g, cap', cur, hv, hge, hgb, hnc, hcm, hcs, htk⟩
        · cases h0
        · cases hv
          refine ⟨.some (b, cap, cur.toList.drop ((k + m) * i.size)), w', hrun, ⟨hlen, fun h => (by cases h), fun b c r h => ?_⟩, ?_⟩
          · cases h
            refine ⟨hnc, hcm, ?_⟩
            rw [← htk, List.take_append_drop]; simpa using hcs
          · refine hm.swap hg (fun b c r h => ?_)
            cases h
            refine ⟨.inl ⟨_, _, rfl⟩, ?_⟩
            rw [← htk, List.take_append_drop]; simpa using hgb
      · have holds : ∀ j u, xs[j]? = some u → w.cell? ((⟨b, 0, none⟩ : Addr).add j) = some u := fun j u hj => by
          have hj' := (List.getElem?_eq_some_iff.1 hj).1
          rw [add_plain, cell_of_cells hbb]
          simp [List.getElem?_append_left hj', hj]
        obtain ⟨v', w', hrun, ho, hg⟩ := run_append_arg_grows (P := P) w T tt e i z i.size i.bytes hu hi hz rfl rfl hzs hsz ⟨b, 0, none⟩ k cap xs hx.len holds ad m c ys hy hc' (by omega) b1 b2
        have hg' : w.grownBy w' (some b) := ⟨hg.os, hg.tape, hg.output, hg.size, fun k hk _ => hg.block k hk (by simp)⟩
        rcases ho.2 with ⟨rfl, h0⟩ | ⟨g, cap', cur, rfl, hge, hgb, hnc, hcm, hcs, htk⟩
        · refine ⟨none, w', hrun, ⟨hlen, fun _ => h0, fun _ _ _ h => by cases h⟩, ?_⟩
          exact hm.swap hg' (fun b c r h => by cases h)
        · refine ⟨.some (g, cap', cur.toList.drop ((k + m) * i.size)), w', hrun, ⟨hlen, fun h => (by cases h), fun b c r h => ?_⟩, ?_⟩
          · cases h
            refine ⟨hnc, hcm, ?_⟩
            rw [← htk, List.take_append_drop]; simpa using hcs
          · refine hm.swap hg' (fun b c r h => ?_)
            cases h
            refine ⟨.inr hge, ?_⟩
            rw [← htk, List.take_append_drop]; simpa using hgb

/-- Append onto a slice of the function's own. -/
theorem RunL.append {s y : Operand} {T e : TypeId} {sz by_ : Nat} (A B : Blks) (x : Own) {k m c : Nat} {q : Option Addr} {xs : List Value} (ys : List Value) (hT : apB P T = some (e, sz, by_)) (hn : news = A ++ (ownB e x xs ++ B))
    (hs : rev r s = some (ownV x k)) (hy : rev r y = some (.slice q m c)) (hx : OwnOk sz x k xs) (hl : ys.length = m * sz) (hq : q = none → m = 0 ∧ c = 0)
    (hc : ∀ w, Mem W chg news w → ∀ j u, ys[j]? = some u → ∃ ad, q = some ad ∧ w.cell? (ad.add j) = some u) (h1 : ∀ u ∈ ys, u.oneCell' = true) (b1 : k + m ≤ maxLen) (b2 : (k + m) * by_ ≤ 140737488355328) (hd : Nat.ble (d + 1) n = true)
    (h : ∀ z, OwnOk sz z (k + m) (xs ++ ys) → RunL P ops Q n rest ((d, ownV z (k + m)) :: r) ds W chg (A ++ (ownB e z (xs ++ ys) ++ B))) :
    RunL P ops Q n ({ dst := some d, op := .call { callee := .builtin .append, args := #[s, y], argTypes := #[T, T] }, type := ty, pos, after, guard := none } :: rest) r ds W chg news := fun a w st =>
  wpList_plain rfl fun K hK => by
    have hm := st.mem
    rw [hn] at hm
    obtain ⟨z, w', hrun, ho, hm'⟩ := append_run (P := P) (tt := ty) hT hm hx hl hq (hc w st.mem) h1 b1 b2
    unfold Oper.wp
    simp [execOp, resolve, invoke, builtin, st.agree.eval hs, st.agree.eval hy, hrun, Result.andThen]
    refine hK _ _ (h z ho _ _ ?_)
    have st2 := st.put (Nat.le_of_ble_eq_true hd) (ownV z (k + m))
    exact ⟨st2.size, st2.agree, st2.defers, hm'⟩
theorem New.buildSlice0 {T e : TypeId} {sz : Nat} (hT : slB P T = some (e, sz)) :
    New P r W chg news { dst, op := .buildSlice T 0 #[], type := ty, pos, after, guard := gd } (fun b => .slice (some ⟨b, 0, none⟩) 0 0) (.cells [].toArray e (0, 0)) :=
  ⟨fun a w ha _ => by
    unfold slB at hT
    split at hT
    · rename_i e' hu
      cases hj : P.info? e' with
      | none => simp [hj] at hT
      | some j =>
        simp only [hj, Option.map_some, Option.some.injEq, Prod.mk.injEq] at hT
        obtain ⟨rfl, rfl⟩ := hT
        have hrun : (Instr.buildSlice T 0 #[]).run P w = .ok (.slice (some ⟨w.heap.size, 0, none⟩) 0 0) (w.alloc (.cells #[] e')) := by
          unfold Instr.buildSlice
          simp [run_underlying hu, sizeOf, typeInfo, hj, newRow, newObj, Sem.run, Instr.fill, show Array.range 0 = #[] from by simp [Array.range]]
        simp [execOp, hrun]
    · cases hT⟩

theorem Pick.skip {x : Nat × Obj} {l l' : Blks} (h : Pick l l') : Pick l (x :: l') := by
  have key : ∀ {a b : Blks}, Pick a b → ∀ y, Pick a (y :: b) := by
    intro a b hp
    induction hp with
    | nil => intro y; exact .nil
    | cons ht he hr ih => intro y; exact .cons (.there ht) he (ih y)
  exact key h x

/-- What a round of a loop that counts, and whose states bear something more, must come to. -/
def RoundX {X : Type} (n : Nat) (ds : List Deferred) (W : World) (chg : Nat → X → Blks) (N : Nat) (Inv : Nat → X → Prop) (R : Nat → X → Regs) (Nw : Nat → X → Blks) (k : Nat) (a : Act) (w : World) : Prop :=
  ∃ k' x', k < k' ∧ k' ≤ N ∧ Inv k' x' ∧ St n (R k' x') ds W (chg k' x') (Nw k' x') a w
theorem RunC.loopX {X : Type} {body : Code} {q : Regs} (n0 : Blks) (N : Nat) (R : Nat → X → Regs → Regs) (C V T : Nat → X → Blks) (Inv : Nat → X → Prop) (x0 : X) (h0 : Inv 0 x0) (hc : chg = C 0 x0) (hs : Sub (R 0 x0 q) r) (hn : Pick (V 0 x0 ++ (n0 ++ T 0 x0)) news)
    (hb : ∀ k x, k ≤ N → Inv k x → RunC P (Exit.then (RoundX n ds W C N Inv (fun k x => R k x q) (fun k x => V k x ++ (n0 ++ T k x)) k) Q) n body (R k x q) ds W (C k x) (V k x ++ (n0 ++ T k x))) : RunC P Q n (.loop body) r ds W chg news := by
  have key : ∀ (m k : Nat) (x : X), N - k < m → k ≤ N → Inv k x → ∀ a w, St n (R k x q) ds W (C k x) (V k x ++ (n0 ++ T k x)) a w → Code.rounds P body Q m a w := by
    intro m
    induction m with
    | zero => intro k x h; omega
    | succ m ih =>
      intro k x hk hN hi a w s
      rw [rounds_succ]
      refine wp_mono (hb k x hN hi a w s) ?_
      rintro e a2 w2 hq
      cases e with
      | normal =>
        obtain ⟨k', x', h1, h2, h3, s2⟩ := hq
        exact ih k' x' (by omega) h2 h3 a2 w2 s2
      | exit id => exact hq
      | goto l => exact hq
      | ret => exact hq
      | panic c => exact hq
      | outgrown => exact hq
  intro a w s
  subst hc
  exact wp_loop_rounds _ (key _ 0 x0 (Nat.lt_succ_self _) (Nat.zero_le _) h0 a w (s.pick hs hn))
theorem RunE.roundX {X : Type} {C : Nat → X → Blks} {N : Nat} {Inv : Nat → X → Prop} {R : Nat → X → Regs} {Nw : Nat → X → Blks} {k : Nat} (x : X) (hN : k + 1 ≤ N) (hi : Inv (k + 1) x) (hc : chg = C (k + 1) x) (hs : Sub (R (k + 1) x) r) (hn : Pick (Nw (k + 1) x) news) :
    RunE (Exit.then (RoundX n ds W C N Inv R Nw k) Q) n .normal r ds W chg news := fun _ _ s => ⟨k + 1, x, Nat.lt_succ_self _, hN, hi, by subst hc; exact s.pick hs hn⟩

/-- Rows in a block, and cells behind them. -/
theorem Sl.rowsR {w : World} {b : Nat} {T : TypeId} {fr : Nat × Nat} {sz : Nat} {xs : List (List Value)} {t : List Value} (h : w.heap[b]? = some (.cells (xs.flatten ++ t).toArray T fr)) (hl : ∀ x ∈ xs, x.length = sz) : Sl w (some ⟨b, 0, none⟩) b 0 sz xs :=
  ⟨fun _ => rfl, hl, fun i hi j hj => by
    have h2 := flat_get xs i hi j hl hj
    have h3 : i * sz + j < xs.flatten.length := by
      have h4 : xs[i].length = sz := hl _ (List.getElem_mem hi)
      rw [List.getElem?_eq_getElem (show j < xs[i].length by omega)] at h2
      exact (List.getElem?_eq_some_iff.1 h2).1
    rw [cell_of_cells h, ← h2]
    simp [List.getElem?_append_left h3]⟩
/-- The cells of a slice, one after the other. -/
theorem Sl.flat {w : World} {p : Option Addr} {b o sz : Nat} {xs : List (List Value)} (h : Sl w p b o sz xs) (hz : 0 < sz) : ∀ j u, xs.flatten[j]? = some u → ∃ ad, p = some ad ∧ w.cell? (ad.add j) = some u := by
  intro j u hj
  have hfl : xs.flatten.length = xs.length * sz := by
    have : ∀ l : List (List Value), (∀ x ∈ l, x.length = sz) → l.flatten.length = l.length * sz := by
      intro l
      induction l with
      | nil => intro _; simp
      | cons y l ih => intro hy; simp only [List.flatten_cons, List.length_append, List.length_cons, hy y (by simp), ih (fun z hz => hy z (by simp [hz])), Nat.add_mul]; omega
    exact this xs h.len
  have hjl := (List.getElem?_eq_some_iff.1 hj).1
  have hi : j / sz < xs.length := by rw [Nat.div_lt_iff_lt_mul hz]; omega
  have hr : j % sz < sz := Nat.mod_lt _ hz
  have he : j / sz * sz + j % sz = j := by rw [Nat.mul_comm]; exact Nat.div_add_mod j sz
  have h1 := flat_get xs (j / sz) hi (j % sz) h.len hr
  rw [he, hj] at h1
  refine ⟨_, h.ptr hi, ?_⟩
  have h2 := h.cell (j / sz) hi (j % sz) hr
  rw [Nat.add_assoc, he] at h2
  rw [add_plain, h2, h1]
theorem OwnOk.empty {sz b : Nat} : OwnOk sz (some (b, 0, [])) 0 [] := ⟨by simp, fun _ => rfl, fun _ _ _ h => by cases h; simp [maxLen]⟩
theorem src_blk {w : World} {b : Nat} {T : TypeId} {fr : Nat × Nat} {ys : List Value} (h : w.heap[b]? = some (.cells ys.toArray T fr)) : ∀ j u, ys[j]? = some u → ∃ ad, (some ⟨b, 0, none⟩ : Option Addr) = some ad ∧ w.cell? (ad.add j) = some u := fun j u hj =>
  ⟨_, rfl, by rw [add_plain, cell_of_cells h]; simpa using hj⟩
theorem one_of {ys : List Value} (h : ys.all (·.oneCell') = true) : ∀ u ∈ ys, u.oneCell' = true := fun u hu => List.all_eq_true.1 h u hu
theorem one_flat {α : Type} {f : α → List Value} (hf : ∀ a, (f a).all (·.oneCell') = true) (l : List α) : ∀ u ∈ (l.map f).flatten, u.oneCell' = true := fun u hu => by
  obtain ⟨x, hx, hu⟩ := List.mem_flatten.1 hu
  obtain ⟨a, _, rfl⟩ := List.mem_map.1 hx
  exact one_of (hf a) u hu
theorem flat_len {α : Type} {f : α → List Value} {sz : Nat} (hf : ∀ a, (f a).length = sz) : ∀ l : List α, (l.map f).flatten.length = l.length * sz
  | [] => by simp
  | a :: l => by simp only [List.map_cons, List.flatten_cons, List.length_append, List.length_cons, hf a, flat_len hf l, Nat.add_mul]; omega
theorem pasteN_app {t : List Value} : ∀ {cs vs cs' : List Value}, pasteN cs vs = some cs' → pasteN (cs ++ t) vs = some (cs' ++ t)
  | cs, [], cs', h => by cases cs <;> simp [pasteN] at h <;> subst h <;> cases t <;> simp [pasteN]
  | [], _ :: _, _, h => by simp [pasteN] at h
  | c :: cs, v :: vs, cs', h => by
    simp only [pasteN] at h
    split at h
    · rename_i h1
      split at h
      · rename_i l hl
        cases h
        simp only [List.cons_append, pasteN, h1, pasteN_app (t := t) hl]
      · cases h
    · cases h
theorem paste_app {t : List Value} : ∀ {o : Nat} {cs vs cs' : List Value}, paste cs o vs = some cs' → paste (cs ++ t) o vs = some (cs' ++ t)
  | 0, cs, vs, cs', h => by
    have h' : pasteN cs vs = some cs' := by cases cs <;> simpa [paste] using h
    have := pasteN_app (t := t) h'
    cases hc : cs ++ t <;> rw [hc] at this <;> simpa [paste] using this
  | o + 1, [], vs, cs', h => by simp [paste] at h
  | o + 1, c :: cs, vs, cs', h => by
    simp only [paste] at h
    split at h
    · rename_i l hl
      cases h
      simp only [List.cons_append, paste, paste_app (t := t) hl]
    · cases h
theorem paste_pre {x : List Value} {o : Nat} {cs vs cs' : List Value} (h : paste cs o vs = some cs') : paste (x ++ cs) (x.length + o) vs = some (x ++ cs') := by
  induction x with
  | nil => simpa using h
  | cons c x ih =>
    rw [List.cons_append, List.length_cons, show x.length + 1 + o = (x.length + o) + 1 by omega]
    simp only [paste, ih, List.cons_append]
/-- A store into one row of some. -/
theorem paste_row {α : Type} {f : α → List Value} {sz : Nat} (hf : ∀ a, (f a).length = sz) {a' : α} {j : Nat} {vs t : List Value} : ∀ {l : List α} {i : Nat} (hi : i < l.length), paste (f l[i]) j vs = some (f a') → paste ((l.map f).flatten ++ t) (i * sz + j) vs = some (((l.set i a').map f).flatten ++ t)
  | [], i, hi, _ => by simp at hi
  | a :: l, 0, _, h => by
    simp only [List.map_cons, List.flatten_cons, Nat.zero_mul, Nat.zero_add, List.set_cons_zero, List.append_assoc]
    exact paste_app (by simpa using h)
  | a :: l, i + 1, hi, h => by
    have ih := paste_row (l := l) hf (t := t) (show i < l.length by simpa using hi) (by simpa using h)
    simp only [List.map_cons, List.flatten_cons, List.set_cons_succ, List.append_assoc]
    have h2 := paste_pre (x := f a) ih
    rw [hf a, show sz + (i * sz + j) = (i + 1) * sz + j by rw [Nat.add_mul]; omega] at h2
    exact h2
theorem Pick.same {l l' : Blks} (h : l = l') : Pick l l' := h ▸ Pick.refl l
theorem RunI.append {i : Nat} {K : Act → World → Prop} {s y : Operand} {T e : TypeId} {sz by_ : Nat} (A B : Blks) (x : Own) {k m c : Nat} {q : Option Addr} {xs : List Value} (ys : List Value)
    (ho : ops[i]? = some { dst := some d, op := .call { callee := .builtin .append, args := #[s, y], argTypes := #[T, T] }, type := ty, pos, after, guard := none }) (hT : apB P T = some (e, sz, by_)) (hn : news = A ++ (ownB e x xs ++ B))
    (hs : rev r s = some (ownV x k)) (hy : rev r y = some (.slice q m c)) (hx : OwnOk sz x k xs) (hl : ys.length = m * sz) (hq : q = none → m = 0 ∧ c = 0)
    (hc : ∀ w, Mem W chg news w → ∀ j u, ys[j]? = some u → ∃ ad, q = some ad ∧ w.cell? (ad.add j) = some u) (h1 : ∀ u ∈ ys, u.oneCell' = true) (b1 : k + m ≤ maxLen) (b2 : (k + m) * by_ ≤ 140737488355328) (hd : Nat.ble (d + 1) n = true)
    (h : ∀ z, OwnOk sz z (k + m) (xs ++ ys) → RunK n K ((d, ownV z (k + m)) :: r) ds W chg (A ++ (ownB e z (xs ++ ys) ++ B))) : RunI P ops Q n i K r ds W chg news := fun a w st => by
  have hm := st.mem
  rw [hn] at hm
  obtain ⟨z, w', hrun, hz, hm'⟩ := append_run (P := P) (tt := ty) hT hm hx hl hq (hc w st.mem) h1 b1 b2
  have st2 := st.put (Nat.le_of_ble_eq_true hd) (ownV z (k + m))
  have hK := h z hz _ w' ⟨st2.size, st2.agree, st2.defers, hm'⟩
  unfold wpOp
  simp only [ho]
  refine .inl ?_
  unfold Oper.wp
  simp [execOp, resolve, invoke, builtin, st.agree.eval hs, st.agree.eval hy, hrun, Result.andThen]
  exact hK
theorem RunI.keep {i : Nat} {K : Act → World → Prop} {q : Regs} {news' : Blks} (hs : Sub q r) (hn : Pick news' news) (h : RunI P ops Q n i K q ds W chg news') : RunI P ops Q n i K r ds W chg news := fun a w s => h a w (s.pick hs hn)
/-! ### A slice of the function's own, handed on -/
def ownQ (x : Own) : Option Addr := x.map fun y => ⟨y.1, 0, none⟩
def ownC (x : Own) : Nat := match x with | none => 0 | some y => y.2.1
def ownK (x : Own) : Nat := match x with | none => 0 | some y => y.1
theorem ownV_slice {sz : Nat} {x : Own} {k : Nat} {xs : List Value} (h : OwnOk sz x k xs) : ownV x k = .slice (ownQ x) k (ownC x) := by
  match x, h with
  | none, h => rw [h.nil rfl]; rfl
  | some _, _ => rfl
theorem own_sl {α : Type} {f : α → List Value} {sz : Nat} (hf : ∀ a, (f a).length = sz) (hz : 0 < sz) {x : Own} {k : Nat} {l : List α} {e : TypeId} {w : World} (h : OwnOk sz x k (l.map f).flatten) (hm : ∀ b o, (b, o) ∈ ownB e x (l.map f).flatten → w.heap[b]? = some o) :
    Sl w (ownQ x) (ownK x) 0 sz (l.map f) := by
  match x, h, hm with
  | none, h, _ =>
    have h1 := h.nil rfl
    have h2 := h.len
    rw [h1, flat_len hf, Nat.zero_mul] at h2
    have h3 : l = [] := by
      cases l with
      | nil => rfl
      | cons a l => simp only [List.length_cons, Nat.add_mul] at h2; omega
    subst h3
    exact Sl.emp
  | some (b, c, r), _, hm => exact Sl.rowsR (hm b _ (List.mem_singleton.2 rfl)) (fun x hx => by obtain ⟨a, _, rfl⟩ := List.mem_map.1 hx; exact hf a)
theorem flat_snoc {α : Type} {f : α → List Value} (l : List α) (a : α) : (l.map f).flatten ++ f a = ((l ++ [a]).map f).flatten := by simp
end
end Go.Eng
/- The engine: more facts on one operation; ways that meet again behind a piece of code. No program is in sight. -/
namespace Go.Eng
open Go Go.RowKit

section
variable {P : Program} {r : Regs} {W : World} {chg news : Blks}
variable {ty : TypeId} {pos : String} {after : Array Edge} {dst : Option Tmp} {gd : Option (Nat × Bool)}
/-- All of a but what is b's. -/
def andN (a b : Nat) : Nat := a ^^^ (a &&& b)
theorem andN_bit (a b i : Nat) : (andN a b).testBit i = (a.testBit i && !b.testBit i) := by
  unfold andN
  rw [Nat.testBit_xor, Nat.testBit_and]
  cases a.testBit i <;> cases b.testBit i <;> rfl
theorem andN_le (a b : Nat) : andN a b ≤ a := by
  have : andN a b &&& a = andN a b := by
    apply Nat.eq_of_testBit_eq
    intro i
    rw [Nat.testBit_and, andN_bit]
    cases a.testBit i <;> cases b.testBit i <;> rfl
  rw [← this]
  exact Nat.and_le_right
theorem Val.andNot {x y : Operand} {T yt : TypeId} {k : IntKind} {a b : Nat} (hx : rev r x = some (.int k (a : Int))) (hy : rev r y = some (.int k (b : Int))) (ha' : a < 2 ^ k.bits) (hb' : b < 2 ^ k.bits) (hr : k.wrap ((andN a b : Nat) : Int) = ((andN a b : Nat) : Int)) :
    Val P r W chg news { dst, op := .binOp .andNot T x y yt, type := ty, pos, after, guard := gd } (.int k ((andN a b : Nat) : Int)) :=
  ⟨fun ac w ha _ => by
    have e : ((BitVec.ofInt k.bits (a : Int)) &&& ~~~(BitVec.ofInt k.bits (b : Int))).toNat = andN a b := by
      apply Nat.eq_of_testBit_eq
      intro i
      rw [andN_bit]
      simp only [BitVec.testBit_toNat, BitVec.getLsbD_and, BitVec.getLsbD_not, BitVec.ofInt_natCast, BitVec.getLsbD_ofNat]
      by_cases hi : i < k.bits
      · simp [hi]
      · have : a.testBit i = false := Nat.testBit_lt_two_pow (Nat.lt_of_lt_of_le ha' (Nat.pow_le_pow_right (by omega) (by omega)))
        simp [this]
    simp only [execOp, ha.eval hx, ha.eval hy, eqGuard, binOp, Op.intBits, e, hr]
    simp [hr]⟩
theorem Val.remN {x y : Operand} {T yt : TypeId} {k : IntKind} {a b : Nat} (hx : rev r x = some (.int k (a : Int))) (hy : rev r y = some (.int k (b : Int))) (hb : 0 < b) :
    Val P r W chg news { dst, op := .binOp .rem T x y yt, type := ty, pos, after, guard := gd } (.int k ((a % b : Nat) : Int)) := by
  have h := Val.rem (P := P) (W := W) (chg := chg) (news := news) (dst := dst) (ty := ty) (pos := pos) (after := after) (gd := gd) (T := T) (yt := yt) hx hy (Int.natCast_nonneg a) (by exact_mod_cast hb)
  rw [Int.natCast_emod]
  exact h
theorem Val.quoN {x y : Operand} {T yt : TypeId} {k : IntKind} {a b : Nat} (hx : rev r x = some (.int k (a : Int))) (hy : rev r y = some (.int k (b : Int))) (hb : 0 < b) (hr : k.wrap ((a / b : Nat) : Int) = ((a / b : Nat) : Int)) :
    Val P r W chg news { dst, op := .binOp .quo T x y yt, type := ty, pos, after, guard := gd } (.int k ((a / b : Nat) : Int)) := by
  rw [Int.natCast_ediv] at hr ⊢
  exact Val.quo (P := P) (W := W) (chg := chg) (news := news) (dst := dst) (ty := ty) (pos := pos) (after := after) (gd := gd) (T := T) (yt := yt) hx hy (Int.natCast_nonneg a) (by exact_mod_cast hb) hr
theorem Val.subN {x y : Operand} {T yt : TypeId} {k : IntKind} {a b : Nat} (c : Nat) (hx : rev r x = some (.int k (a : Int))) (hy : rev r y = some (.int k (b : Int))) (hc : c + b = a) (hr : k.wrap (c : Int) = (c : Int)) :
    Val P r W chg news { dst, op := .binOp .sub T x y yt, type := ty, pos, after, guard := gd } (.int k (c : Int)) := by
  have e : (a : Int) - (b : Int) = (c : Int) := by rw [← hc]; simp
  have h := Val.sub' (P := P) (W := W) (chg := chg) (news := news) (dst := dst) (ty := ty) (pos := pos) (after := after) (gd := gd) (T := T) (yt := yt) hx hy (by rw [e]; exact hr)
  rw [e] at h
  exact h
end

section
variable {P : Program} {ops : Array Oper} {Q : Exit → Act → World → Prop} {n : Nat} {r : Regs} {ds : List Deferred} {W : World} {chg news : Blks}
/-- Whichever way code goes, it comes to one of some states. -/
def MeetP {X : Type} (n : Nat) (ds : List Deferred) (W : World) (R : X → Regs) (C Nw : X → Blks) (Inv : X → Prop) (a : Act) (w : World) : Prop := ∃ x, Inv x ∧ St n (R x) ds W (C x) (Nw x) a w
theorem RunC.seqJ {X : Type} {c1 c2 : Code} {q : Regs} (n0 : Blks) (R : X → Regs → Regs) (C V T : X → Blks) (Inv : X → Prop) (_hs : Sub q r) (_hn : Pick n0 news)
    (h : RunC P (Exit.then (MeetP n ds W (fun x => R x q) C (fun x => V x ++ (n0 ++ T x)) Inv) Q) n c1 r ds W chg news)
    (h2 : ∀ x, Inv x → RunC P Q n c2 (R x q) ds W (C x) (V x ++ (n0 ++ T x))) : RunC P Q n (.seq c1 c2) r ds W chg news := fun a w s =>
  wp_seq (Code.wp_mono (fun e a' w' he => by
    cases e with
    | normal => obtain ⟨x, hi, sx⟩ := he; exact h2 x hi a' w' sx
    | exit id => exact he
    | goto l => exact he
    | ret => exact he
    | panic c => exact he
    | outgrown => exact he) (h a w s))
theorem RunE.meet {X : Type} {R : X → Regs} {C Nw : X → Blks} {Inv : X → Prop} (x : X) (hi : Inv x) (hc : chg = C x) (hs : Sub (R x) r) (hn : Pick (Nw x) news) : RunE (Exit.then (MeetP n ds W R C Nw Inv) Q) n .normal r ds W chg news := fun _ _ s =>
  ⟨x, hi, by subst hc; exact s.pick hs hn⟩
theorem Mem.perm {W w : World} {chg news news' : Blks} (h : Mem W chg news w) (hp : news.Perm news') : Mem W chg news' w :=
  { h with
    newd := fun b o hb => h.newd b o (hp.mem_iff.2 hb)
    once := by
      have h1 := h.once
      exact (List.Perm.nodup_iff ((hp.append_left chg).map _)).1 h1 }
/-- A call that makes blocks; they are told of last. -/
theorem RunL.callNT {rest : List Oper} {d : Nat} {β : Type} {o : Oper} {f : FuncId} {args : Array Value} {v : β → Value} {nw : β → Blks} (hi : IsCall P r o f args) (hg : guardB ops r o.guard = some true) (hd : o.dst = some d) (hn : Nat.ble (d + 1) n = true)
    (hc : ∀ w, Mem W chg news w → Calls P f args w (News v nw w)) (h : ∀ b, RunL P ops Q n rest ((d, v b) :: r) ds W chg (news ++ nw b)) : RunL P ops Q n (o :: rest) r ds W chg news :=
  RunL.call hg hd (fun a w s => hi.runs a w s.agree) hc (fun a w e w' s hR => by
    obtain ⟨b, rfl, hm⟩ := hR
    have s2 := s.put (Nat.le_of_ble_eq_true hn) (v b)
    exact h b _ _ ⟨s2.size, s2.agree, s2.defers, (s.mem.trans hm).perm List.perm_append_comm⟩)
/-- Part of one row of some. -/
theorem Sl.subX {α : Type} {f : α → List Value} {w : World} {T : TypeId} {p : Option Addr} {b o sz s2 : Nat} {l : List α} (h : Sl W p b o sz (l.map f)) (hz : 0 < sz) (hm : Mem W chg news w) (hc : ∀ ob, (b, ob) ∉ chg) (hT : tyB P T = some (true, s2)) {i : Nat} (hi : i < l.length) {x : α} (hx : l[i] = x) {j off : Nat} (hj : j + s2 ≤ sz) {vs : List Value} (hv : grab (f x) j s2 = some vs) (ho : off = o + i * sz + j) :
    (loadVar T ⟨b, off, none⟩).run P w = .ok (.agg vs.toArray) w := by
  subst hx ho
  have hi' : i < (l.map f).length := by simpa using hi
  obtain ⟨g1, g2⟩ := grab_spec hv
  refine run_loadVar_agg (by rw [g1]; exact hT) (fun m hmm => ?_)
  rw [add_plain, hm.cell (p := ⟨b, _, none⟩) (h.lt hz hi') hc]
  have h1 := h.cell i hi' (j + m) (by omega)
  rw [show o + i * sz + j + m = o + i * sz + (j + m) by omega, h1]
  have h2 := g2 m (by omega)
  rw [List.getElem?_eq_getElem hmm] at h2
  simpa using h2
theorem paste_rowE {α : Type} {f : α → List Value} {sz : Nat} (hf : ∀ a, (f a).length = sz) {a' : α} {j off : Nat} {vs t : List Value} {l : List α} {i : Nat} (hi : i < l.length) {a : α} (ha : l[i] = a) (ho : off = i * sz + j) (h : paste (f a) j vs = some (f a')) : paste ((l.map f).flatten ++ t) off vs = some (((l.set i a').map f).flatten ++ t) := by
  subst ho ha
  exact paste_row hf hi h
end
end Go.Eng
/- The engine: calls that turn a block, and hand back some value of which only something is known. No program is in sight. -/
namespace Go.Eng
open Go Go.RowKit

/-- It hands back one of some values; one block that lay there is another. -/
def TurnsX {β : Type} (b : Nat) (o : Obj) (v : β → Value) (I : β → Prop) (W : World) (e : Ending) (w : World) : Prop := ∃ x, I x ∧ e = .returned (v x) ∧ Mem W [(b, o)] [] w
section
variable {P : Program} {ops : Array Oper} {Q : Exit → Act → World → Prop} {n : Nat} {r : Regs} {ds : List Deferred} {W : World} {chg news : Blks} {rest : List Oper} {d : Nat}
theorem RunL.callX {β : Type} {o : Oper} {f : FuncId} {args : Array Value} {v : β → Value} {I : β → Prop} {b : Nat} {ob ob' : Obj} {news' : Blks} (hi : IsCall P r o f args) (hg : guardB ops r o.guard = some true) (hd : o.dst = some d) (hn : Nat.ble (d + 1) n = true)
    (hu : Upd news b ob ob' news') (hc : ∀ w, Mem W chg news w → Calls P f args w (TurnsX b ob' v I w)) (h : ∀ x, I x → RunL P ops Q n rest ((d, v x) :: r) ds W chg news') : RunL P ops Q n (o :: rest) r ds W chg news :=
  RunL.call hg hd (fun a w s => hi.runs a w s.agree) hc (fun a w e w' s hR => by
    obtain ⟨x, hx, rfl, hm⟩ := hR
    have s2 := s.put (Nat.le_of_ble_eq_true hn) (v x)
    exact h x hx _ _ ⟨s2.size, s2.agree, s2.defers, s.mem.turn_new hu hm⟩)
theorem RunL.callX_chg {β : Type} {o : Oper} {f : FuncId} {args : Array Value} {v : β → Value} {I : β → Prop} {b : Nat} {ob ob' : Obj} {chg' : Blks} (hi : IsCall P r o f args) (hg : guardB ops r o.guard = some true) (hd : o.dst = some d) (hn : Nat.ble (d + 1) n = true)
    (hu : Upd chg b ob ob' chg') (hc : ∀ w, Mem W chg news w → Calls P f args w (TurnsX b ob' v I w)) (h : ∀ x, I x → RunL P ops Q n rest ((d, v x) :: r) ds W chg' news) : RunL P ops Q n (o :: rest) r ds W chg news :=
  RunL.call hg hd (fun a w s => hi.runs a w s.agree) hc (fun a w e w' s hR => by
    obtain ⟨x, hx, rfl, hm⟩ := hR
    have s2 := s.put (Nat.le_of_ble_eq_true hn) (v x)
    exact h x hx _ _ ⟨s2.size, s2.agree, s2.defers, s.mem.turn_chg hu hm⟩)
variable {K : Act → World → Prop} {i : Nat}
theorem RunI.callX {β : Type} {o : Oper} {f : FuncId} {args : Array Value} {v : β → Value} {I : β → Prop} {b : Nat} {ob ob' : Obj} {news' : Blks} (ho : ops[i]? = some o) (hi : IsCall P r o f args) (hg : guardB ops r o.guard = some true) (hd : o.dst = some d) (hn : Nat.ble (d + 1) n = true)
    (hu : Upd news b ob ob' news') (hc : ∀ w, Mem W chg news w → Calls P f args w (TurnsX b ob' v I w)) (h : ∀ x, I x → RunK n K ((d, v x) :: r) ds W chg news') : RunI P ops Q n i K r ds W chg news :=
  RunI.call ho hi hg hc (fun a w e w' s hR => by
    obtain ⟨x, hx, rfl, hm⟩ := hR
    have s2 := s.put (Nat.le_of_ble_eq_true hn) (v x)
    simp only [hd]
    exact h x hx _ _ ⟨s2.size, s2.agree, s2.defers, s.mem.turn_new hu hm⟩)
theorem RunI.callX_chg {β : Type} {o : Oper} {f : FuncId} {args : Array Value} {v : β → Value} {I : β → Prop} {b : Nat} {ob ob' : Obj} {chg' : Blks} (ho : ops[i]? = some o) (hi : IsCall P r o f args) (hg : guardB ops r o.guard = some true) (hd : o.dst = some d) (hn : Nat.ble (d + 1) n = true)
    (hu : Upd chg b ob ob' chg') (hc : ∀ w, Mem W chg news w → Calls P f args w (TurnsX b ob' v I w)) (h : ∀ x, I x → RunK n K ((d, v x) :: r) ds W chg' news) : RunI P ops Q n i K r ds W chg news :=
  RunI.call ho hi hg hc (fun a w e w' s hR => by
    obtain ⟨x, hx, rfl, hm⟩ := hR
    have s2 := s.put (Nat.le_of_ble_eq_true hn) (v x)
    simp only [hd]
    exact h x hx _ _ ⟨s2.size, s2.agree, s2.defers, s.mem.turn_chg hu hm⟩)
theorem RunE.retX {β : Type} {fn : Func} {b : Nat} {o : Obj} {v : β → Value} {I : β → Prop} (x : β) (hx : I x) {u : Value} (hv : ResVs P r ([(b, o)] ++ news) fn u) (he : u = v x) : RunE (bodyPost P fn (TurnsX b o v I W)) n .ret r [] W [(b, o)] news :=
  RunE.ret (chg := [(b, o)]) hv (fun _ hm => ⟨x, hx, by rw [he], hm.drop⟩)
theorem RunC.drawX {X : Type} {id : Nat} {l : List Oper} {news0 : Blks} {q : Regs} (k : Nat) (n0 : Blks) (R : X → Regs → Regs) (C V T : X → Blks) (Inv : X → Prop) (hm : P.follows .mixedOrders = true) (hp : Pick news0 news) (_hs : Sub q r) (_hn : Pick n0 news)
    (h : RunA P l.toArray (SegQ Q (MeetP n ds W (fun x => R x q) C (fun x => V x ++ (n0 ++ T x)) Inv)) k (fun c => c = chg) news0 n l.toArray.size (Array.replicate l.toArray.size false) r ds W chg news)
    (h2 : ∀ x, Inv x → RunE Q n .normal (R x q) ds W (C x) (V x ++ (n0 ++ T x))) : RunC P Q n (.region id l.toArray true) r ds W chg news :=
  RunC.drawJ k hm hp h (fun a w hj => by
    obtain ⟨x, hi, sx⟩ := hj
    exact h2 x hi a w sx)
theorem RunE.joinX {X : Type} {R : X → Regs} {C Nw : X → Blks} {Inv : X → Prop} (x : X) (hi : Inv x) (hc : chg = C x) (hs : Sub (R x) r) (hn : Pick (Nw x) news) : RunE (SegQ Q (MeetP n ds W R C Nw Inv)) n .normal r ds W chg news := fun _ _ s =>
  ⟨x, hi, by subst hc; exact s.pick hs hn⟩
end
end Go.Eng
/- The engine: an element of an array value; a deferred call of a function value that holds a block. No program is in sight. -/
namespace Go.Eng
open Go Go.RowKit
section
variable {P : Program} {r : Regs} {W : World} {chg news : Blks}
variable {d : Nat} {ty : TypeId} {pos : String} {after : Array Edge} {dst : Option Tmp} {gd : Option (Nat × Bool)}
/-- An array of elements of one cell: of how many. -/
def arr1B (P : Program) (T : TypeId) : Option Nat :=
  match P.underlying T with
  | some (.array n e) => match P.underlying e with
    | some d => if isAggD d then none else match P.info? e with
      | some j => if j.size = 1 then some n else none
      | none => none
    | none => none
  | _ => none
theorem Val.index1 {x y : Operand} {T : TypeId} {len : Nat} {cs : Array Value} {v : Value} {k : IntKind} {i : Int} (hx : rev r x = some (.agg cs)) (hy : rev r y = some (.int k i)) (hT : arr1B P T = some len) (h0 : 0 ≤ i) (h1 : i < len) (hv : cs[i.toNat]? = some v) :
    Val P r W chg news { dst, op := .index T x y, type := ty, pos, after, guard := gd } v :=
  ⟨fun a w ha _ => by
    unfold arr1B at hT
    split at hT
    · rename_i n e hu
      split at hT
      · rename_i d hd
        split at hT
        · cases hT
        · rename_i hag
          split at hT
          · rename_i j hj
            split at hT
            · rename_i hs
              cases hT
              have hp := run_part1 (w := w) hd (by simpa using hag) hv
              simp [execOp, ha.eval hx, ha.eval hy, Instr.index, asIntOf, run_underlying hu, sizeOf, typeInfo, hj, hs, h0, h1, hp]
            · cases hT
          · cases hT
      · cases hT
    · cases hT⟩
theorem Val.eql_iface_nil {x : Operand} {T yt t : TypeId} {v : Value} {ms : Array (String × TypeId)} (hx : rev r x = some (.iface t v)) (hT : P.underlying T = some (.interface ms)) :
    Val P r W chg news { dst, op := .binOp .eql T x (.const .nilIface) yt, type := ty, pos, after, guard := gd } (.bool false) :=
  ⟨fun a w ha _ => by
    have h := run_equal_iface_nil (P := P) (w := w) (t := t) (v := v) hT
    simp [execOp, ha.eval hx, BigFrame.eval_const, eqGuard, binOp, h]⟩
theorem Val.eql_nil_nil {x : Operand} {T yt : TypeId} {ms : Array (String × TypeId)} (hx : rev r x = some .nilIface) (hT : P.underlying T = some (.interface ms)) :
    Val P r W chg news { dst, op := .binOp .eql T x (.const .nilIface) yt, type := ty, pos, after, guard := gd } (.bool true) :=
  ⟨fun a w ha _ => by
    have h := run_equal_nil_nil (P := P) (w := w) hT
    simp [execOp, ha.eval hx, BigFrame.eval_const, eqGuard, binOp, h]⟩
/-- A quotient, and what is left, rounded toward 0. -/
theorem Val.quoT {x y : Operand} {T yt : TypeId} {k : IntKind} {p q : Int} (hx : rev r x = some (.int k p)) (hy : rev r y = some (.int k q)) (hq : 0 < q) (hr : k.wrap (p.tdiv q) = p.tdiv q) :
    Val P r W chg news { dst, op := .binOp .quo T x y yt, type := ty, pos, after, guard := gd } (.int k (p.tdiv q)) :=
  ⟨fun a w ha _ => by
    have : ¬ q = 0 := by omega
    simp [execOp, ha.eval hx, ha.eval hy, eqGuard, binOp, Op.intDiv, this, hr]⟩
theorem Val.remT {x y : Operand} {T yt : TypeId} {k : IntKind} {p q : Int} (hx : rev r x = some (.int k p)) (hy : rev r y = some (.int k q)) (hq : 0 < q) :
    Val P r W chg news { dst, op := .binOp .rem T x y yt, type := ty, pos, after, guard := gd } (.int k (p.tmod q)) :=
  ⟨fun a w ha _ => by
    have : ¬ q = 0 := by omega
    simp [execOp, ha.eval hx, ha.eval hy, eqGuard, binOp, Op.intDiv, this]⟩
/-- What is left of a slice without its first elements. -/
theorem Val.sliceFrom {x y : Operand} {T e : TypeId} {b o n cap sz : Nat} {k : IntKind} {i : Int} {q : Option Addr} (hx : rev r x = some (.slice q n cap)) (hy : rev r y = some (.int k i)) (hT : slB P T = some (e, sz)) (hq : q = some ⟨b, o, none⟩) (h0 : 0 ≤ i) (h1 : i < n) (h2 : n ≤ cap) :
    Val P r W chg news { dst, op := .slice T x (some y) none none, type := ty, pos, after, guard := gd } (.slice (some ⟨b, o + i.toNat * sz, none⟩) (n - i.toNat) (cap - i.toNat)) :=
  ⟨fun a w ha _ => by
    subst hq
    unfold slB at hT
    split at hT
    · rename_i e2 hu
      cases hj : P.info? e2 with
      | none => simp [hj] at hT
      | some j =>
        simp [hj] at hT
        obtain ⟨rfl, rfl⟩ := hT
        have h3 : ¬ cap = i.toNat := by omega
        have h4 : i ≤ (n : Int) := by omega
        simp [execOp, ha.eval hx, ha.eval hy, Instr.sliceAt, Instr.sureAddr, Instr.slice, Instr.sliceBounds, Instr.sliceBound, asIntOf, run_underlying hu, sizeOf, typeInfo, hj, h0, h4, h3, add_plain]
    · cases hT⟩
end
section
variable {P : Program} {ops : Array Oper} {Q : Exit → Act → World → Prop} {n : Nat} {r : Regs} {ds : List Deferred} {W : World} {chg news : Blks}
/-- A loop of few rounds, one after the other. -/
theorem RunC.unroll {body : Code} (k : Nat) (h : RunC P (Exit.then (Code.rounds P body Q k) Q) n body r ds W chg news) : RunC P Q n (.loop body) r ds W chg news := fun a w s => wp_loop_rounds (k + 1) (h a w s)
theorem RunE.rounds {body : Code} {k : Nat} (h : RunC P (Exit.then (Code.rounds P body Q k) Q) n body r ds W chg news) : RunE (Exit.then (Code.rounds P body Q (k + 1)) Q) n .normal r ds W chg news := fun a w s => h a w s
theorem leaves_calmC {fn : Func} {f : FuncId} {T : TypeId} {mis : Int → Value} {v v0 : Value} {b : Nat} (hc : Catches P f T mis) (he : Enters P f) (hv : ResVs P r news fn v) (hv0 : v = v0) {a : Act} {w : World} (s : St n r [{ target := .fn (.func f) #[.pointer (some ⟨b, 0, none⟩)], args := #[] }] W [] news a w) :
    Leaves P fn a.tmps (Pure v0 W) a.defers .returning w := by
  rw [s.defers]
  refine leaves_cons (f := f) (args := #[.pointer (some ⟨b, 0, none⟩)]) (by simp) (by simp [invoke]; exact he _ _) ?_
  refine (hc.calm b w).mono ?_
  rintro e u w' ⟨⟨x, rfl⟩, rfl, hm⟩
  have hm2 := s.mem.pass hm
  exact ⟨v, hv.run s.agree (fun _ _ h => hm2.at (by simpa using h)), by rw [hv0], hm2.drop⟩
theorem RunE.retDC {fn : Func} {f : FuncId} {T : TypeId} {mis : Int → Value} {v v0 : Value} {b : Nat} (hc : Catches P f T mis) (he : Enters P f) (hv : ResVs P r news fn v) (hv0 : v = v0) :
    RunE (bodyPostD P fn (Pure v0 W)) n .ret r [{ target := .fn (.func f) #[.pointer (some ⟨b, 0, none⟩)], args := #[] }] W [] news := fun _ _ s => leaves_calmC hc he hv hv0 s
theorem RunE.panDC {fn : Func} {f : FuncId} {T : TypeId} {mis : Int → Value} {v v0 x : Value} {b : Nat} {k : Int} {news' : Blks} (hc : Catches P f T mis) (he : Enters P f) (hu : Upd news b (.cells #[x] T (0, 0)) (.cells #[.int .i64 k] T (0, 0)) news') (hv : ResVs P r news' fn v) (hv0 : v = v0) :
    RunE (bodyPostD P fn (Pure v0 W)) n (.panic [{ v := mis k, recovered := false }]) r [{ target := .fn (.func f) #[.pointer (some ⟨b, 0, none⟩)], args := #[] }] W [] news := fun a w s => by
  show Leaves P fn a.tmps (Pure v0 W) a.defers _ w
  rw [s.defers]
  refine leaves_cons (f := f) (args := #[.pointer (some ⟨b, 0, none⟩)]) (by simp) (by simp [invoke]; exact he _ _) ?_
  refine (hc.wild b k x w (s.mem.newd _ _ hu.mem).2).mono ?_
  rintro e u w' ⟨⟨y, rfl⟩, rfl, hm⟩
  have hm2 := s.mem.turn_new hu hm
  exact ⟨v, hv.run s.agree (fun _ _ h => hm2.at (by simpa using h)), by rw [hv0], hm2.drop⟩
end
end Go.Eng
/- The engine: a deferred function that calls another one besides recovering, where its caller ranges over a function; leaving such a caller. No program is in sight. -/
namespace Go.Eng
open Go Go.RowKit
section
variable {P : Program}
theorem callsDIn_wide_of_wpS {f : FuncId} {fn : Func} {c : Code} {args : Array Value} {u : FrameMode} {w : World} {n : Nat} {R : Ending → FrameMode → World → Prop} (hf : P.funcs[f]? = some fn) (hb : fn.body = some c)
    (h : ∀ (c₀ : Frame) (cs : List Frame), c₀.mode = u → c.wpS P (bodyPostS P fn c₀ cs R) { tmps := args ++ Array.replicate (fn.ntmps - args.size) undef, defers := [] } (c₀ :: cs) w) :
    CallsDIn Fence.wide n P f args u w R := by
  refine ⟨trivial, fun c₀ cs hu _ => ?_⟩
  obtain ⟨e, a', cs', w', hq, harr⟩ := h c₀ cs hu { (default : Frame) with fn := f, kind := .deferred } [] rfl rfl
  have hen : Frame.enter P f args .deferred = ({ (default : Frame) with fn := f, kind := .deferred } : Frame).at { tmps := args ++ Array.replicate (fn.ntmps - args.size) undef, defers := [] } [.code c] := by
    simp [Frame.enter, Frame.at, hf, hb]
  rw [← hen] at harr
  match e, hq, harr with
  | .normal, ⟨hd, u', hc, v, hr, hR⟩, harr =>
    subst hc
    exact ⟨.returned v, u', w', _, hR, (comesIn_wide (P := P) (e := .returned v)).2 (Steps.trans harr (.one step_end)), rfl, rfl, rfl, hd, fn, hf, hr⟩
  | .ret, ⟨hd, u', hc, v, hr, hR⟩, ⟨_, hs⟩ =>
    subst hc
    exact ⟨.returned v, u', w', _, hR, (comesIn_wide (P := P) (e := .returned v)).2 hs, rfl, rfl, rfl, hd, fn, hf, hr⟩
  | .panic chain, ⟨hd, u', hc, hR⟩, ⟨_, hs⟩ =>
    subst hc
    exact ⟨.panicked chain, u', w', _, hR, (comesIn_wide (P := P) (e := .panicked chain)).2 hs, rfl, rfl, rfl, hd, fn, hf⟩
  | .outgrown, ⟨u', hR⟩, harr =>
    exact ⟨.outgrown, u', w', { (default : Frame) with fn := f, kind := .deferred }, hR, (comesIn_wide (P := P) (e := .outgrown)).2 (harr.resolve_left (by simp)), rfl, rfl, trivial⟩
variable {W w : World} {chg news : Blks}
/-- Some cells of one row of a slice. -/
theorem Sl.loadPart {α : Type} {f : α → List Value} {T : TypeId} {p : Option Addr} {b o sz m : Nat} {l : List α} (h : Sl W p b o sz (l.map f)) (hm : Mem W chg news w) (hc : ∀ ob, (b, ob) ∉ chg) (hT : tyB P T = some (true, m)) {i : Nat} (hi : i < l.length) {x : α} (hx : l[i] = x) {j : Nat} (hj : j + m ≤ sz) {vs : List Value} (hv : grab (f x) j m = some vs) (hm0 : 0 < m) {off : Nat} (ho : off = o + i * sz + j) :
    (loadVar T ⟨b, off, none⟩).run P w = .ok (.agg vs.toArray) w := by
  subst hx
  subst ho
  have hi' : i < (l.map f).length := by simpa using hi
  obtain ⟨h1, h2⟩ := grab_spec hv
  refine run_loadVar_agg (by rw [h1]; exact hT) (fun k hk => ?_)
  rw [add_plain, hm.cell (p := ⟨b, _, none⟩) (h.lt (by omega) hi') hc, Nat.add_assoc (o + i * sz) j k, h.cell i hi' (j + k) (by omega), List.getElem_map, h2 k (by omega)]
  simp [hk]
end
section
variable {P : Program} {ops : Array Oper} {Q : Exit → Act → World → Prop} {n d i : Nat} {r : Regs} {ds : List Deferred} {W : World} {chg news : Blks} {K : Act → World → Prop}
theorem RunC.drawPJ {id : Nat} {l : List Oper} {news0 : Blks} {J : Act → World → Prop} (k : Nat) (hm : P.follows .mixedOrders = true) (hp : Pick news0 news) (h : RunA P l.toArray (PanQ (SegQ Q J) n r ds W chg news0) k (fun c => c = chg) news0 n l.toArray.size (Array.replicate l.toArray.size false) r ds W chg news) (h2 : ∀ a w, J a w → Q .normal a w) :
    RunC P Q n (.region id l.toArray true) r ds W chg news := fun a w s =>
  Code.wp_mono (fun e a w hq => by cases e <;> first | exact h2 a w hq | exact hq) (RunC.drawP (Q := SegQ Q J) k hm hp h a w s)
theorem RunC.drawPX {X : Type} {id : Nat} {l : List Oper} {news0 : Blks} {q : Regs} (k : Nat) (n0 : Blks) (R : X → Regs → Regs) (C V T : X → Blks) (Inv : X → Prop) (hm : P.follows .mixedOrders = true) (hp : Pick news0 news) (_hs : Sub q r) (_hn : Pick n0 news)
    (h : RunA P l.toArray (PanQ (SegQ Q (MeetP n ds W (fun x => R x q) C (fun x => V x ++ (n0 ++ T x)) Inv)) n r ds W chg news0) k (fun c => c = chg) news0 n l.toArray.size (Array.replicate l.toArray.size false) r ds W chg news)
    (h2 : ∀ x, Inv x → RunE Q n .normal (R x q) ds W (C x) (V x ++ (n0 ++ T x))) : RunC P Q n (.region id l.toArray true) r ds W chg news :=
  RunC.drawPJ k hm hp h (fun a w hj => by
    obtain ⟨x, hi, sx⟩ := hj
    exact h2 x hi a w sx)
theorem RunE.seg_panic {J : Act → World → Prop} {c : List PanicEntry} (h : RunE Q n (.panic c) r ds W chg news) : RunE (SegQ Q J) n (.panic c) r ds W chg news := h
theorem RunL.deferC {x : Operand} {fn : Fn} {cap : Array Value} {rest : List Oper} {ty : TypeId} {pos : String} {after : Array Edge} {ats : Array TypeId} (hx : rev r x = some (.func fn #[] cap))
    (h : RunL P ops Q n rest r ({ target := .fn fn cap, args := #[] } :: ds) W chg news) :
    RunL P ops Q n ({ dst := none, op := .defer { callee := .value x, args := #[], argTypes := ats }, type := ty, pos, after, guard := none } :: rest) r ds W chg news := fun a w s =>
  wpList_plain rfl fun K hK => by
    have h1 := s.agree.eval hx
    have e : (execOp a.eval { dst := none, op := .defer { callee := .value x, args := #[], argTypes := ats }, type := ty, pos, after, guard := none }).run P w = .ok (.defer { target := .fn fn cap, args := #[] }) w := by
      simp [execOp, resolve, h1, Deferred.ofValue]
    unfold Oper.wp
    rw [e, Oper.upon_defer]
    exact hK _ _ (h _ _ ⟨s.size, s.agree, by rw [← s.defers]; rfl, s.mem⟩)
theorem RunI.callTN {α : Type} {o : Oper} {f : FuncId} {args : Array Value} {mis : Int → Value} {x : Except Int α} {v : α → Nat → Value} {nw : α → Nat → Blks} (ho : ops[i]? = some o) (hi : IsCall P r o f args) (hg : guardB ops r o.guard = some true) (hd : o.dst = some d) (hn : Nat.ble (d + 1) n = true)
    (hc : ∀ w, Mem W chg news w → Calls P f args w (TryN mis x v nw w)) (herr : ∀ k, x = .error k → RunE Q n (.panic [{ v := mis k, recovered := false }]) r ds W chg news)
    (hok : ∀ a, x = .ok a → ∀ b, RunK n K ((d, v a b) :: r) ds W chg (nw a b ++ news)) : RunI P ops Q n i K r ds W chg news :=
  RunI.call ho hi hg hc (fun a w e w' s hR => by
    unfold TryN at hR
    cases x with
    | ok y =>
      obtain ⟨b, rfl, hm⟩ := hR
      have s2 := s.put (Nat.le_of_ble_eq_true hn) (v y b)
      simp only [hd]
      exact hok y rfl b _ _ ⟨s2.size, s2.agree, s2.defers, s.mem.trans hm⟩
    | error k =>
      obtain ⟨rfl, hm⟩ := hR
      exact herr k rfl a w' ⟨s.size, s.agree, s.defers, s.mem.pass hm⟩)
end
end Go.Eng
