/- The engine, said inside a fence that may stand in the round of a range over a function: for the body of a round, and for the iterator. No program is in sight. -/
import Derived.Test.YtlhdalcipflblaaDoorW00
import Derived.RangeFuncWrites
import Derived.RangeFuncLeaves
import Derived.RangeFuncCalls
import Derived.RangeFuncBound
import Derived.LoopNIn
import Derived.ProofKit
import Derived.OpenShut
import Derived.ShutString
import Derived.ChangeOld
import Derived.Below
import Derived.Carry
import Derived.Deep.Slices
import Derived.ArgAppend
import Derived.RangeFuncNested
import Derived.OrdersIn
import Derived.ChangeKeysEq
import Derived.Laws.StructEq
import Derived.Maps.RangeRun
import Derived.Lib.Bytealg
import Derived.Laws.BytesString
import Derived.Laws.Strings
import Derived.Laws.Cells
import Derived.Laws.MakeOwn
namespace Go.Eng
open Go Go.RowKit

def Fr (ro : Option Nat) : Fence := { fn := fun _ => True, depth := none, alive := false, round := ro }
theorem Fr_none : Fr none = Fence.wide := rfl
theorem Fr_some (l : Nat) : Fr (some l) = Fence.wide.inRound l := rfl
def notDefer (o : Oper) : Bool := match o.op with
  | .defer _ => false
  | _ => true
theorem notDefer_spec {o : Oper} (h : notDefer o = true) : ∀ c, o.op ≠ .defer c := fun c e => by simp [notDefer, e] at h

section
variable {ro : Option Nat} {P : Program} {ops : Array Oper} {Q : Exit → Act → World → Prop} {n : Nat} {r : Regs} {ds : List Deferred} {W : World} {chg news : Blks} {rest : List Oper}
variable {d : Nat}

def RunCR (ro : Option Nat) (P : Program) (Q : Exit → Act → World → Prop) (n : Nat) (c : Code) (r : Regs) (ds : List Deferred) (W : World) (chg news : Blks) : Prop :=
  ∀ a w, St n r ds W chg news a w → c.wpIn (Fr ro) 9 P Q a w
def RunLR (ro : Option Nat) (P : Program) (ops : Array Oper) (Q : Exit → Act → World → Prop) (n : Nat) (l : List Oper) (r : Regs) (ds : List Deferred) (W : World) (chg news : Blks) : Prop :=
  ∀ a w, St n r ds W chg news a w → wpListIn (Fr ro) 9 P ops Q l a w

/-- What holds at the wide fence. -/
theorem RunCR.of {c : Code} (h : RunC P Q n c r ds W chg news) : RunCR none P Q n c r ds W chg news := fun a w s => wpIn_wide.2 (h a w s)
theorem RunCR.to {c : Code} (h : RunCR none P Q n c r ds W chg news) : RunC P Q n c r ds W chg news := fun a w s => wpIn_wide.1 (h a w s)
theorem RunCR.seq {x y : Code} (h : RunCR ro P (Exit.then (y.wpIn (Fr ro) 9 P Q) Q) n x r ds W chg news) : RunCR ro P Q n (.seq x y) r ds W chg news := fun a w s => wpIn_seq (h a w s)
theorem RunCR.block {id : Nat} {c : Code} (h : RunCR ro P (Exit.inBlock id Q) n c r ds W chg news) : RunCR ro P Q n (.block id c) r ds W chg news := fun a w s => wpIn_block (h a w s)
theorem RunCR.skip (h : RunE Q n .normal r ds W chg news) : RunCR ro P Q n .skip r ds W chg news := fun a w s => wpIn_skip (h a w s)
theorem RunCR.exit {id : Nat} (h : RunE Q n (.exit id) r ds W chg news) : RunCR ro P Q n (.exit id) r ds W chg news := fun a w s => wpIn_exit (h a w s)
theorem RunCR.ret (h : RunE Q n .ret r ds W chg news) : RunCR ro P Q n .ret r ds W chg news := fun a w s => wpIn_ret (h a w s)
theorem RunCR.cond {c : Operand} {x y : Code} {t : Bool} (hc : rev r c = some (.bool t)) (ht : t = true → RunCR ro P Q n x r ds W chg news) (hf : t = false → RunCR ro P Q n y r ds W chg news) :
    RunCR ro P Q n (.cond c x y) r ds W chg news := fun a w s => by
  refine wpIn_cond (s.agree.eval hc) ?_
  cases t
  · exact hf rfl a w s
  · exact ht rfl a w s
theorem RunCR.region {id : Nat} {l : List Oper} (h : RunLR ro P l.toArray Q n l r ds W chg news) : RunCR ro P Q n (.region id l.toArray false) r ds W chg news := fun a w s => wpIn_region_lit (h a w s)
theorem RunLR.nil (h : RunE Q n .normal r ds W chg news) : RunLR ro P ops Q n [] r ds W chg news := fun a w s => h a w s
theorem RunER.next {y : Code} {Q' : Exit → Act → World → Prop} (h : RunCR ro P Q n y r ds W chg news) : RunE (Exit.then (y.wpIn (Fr ro) 9 P Q) Q') n .normal r ds W chg news := fun a w s => h a w s

theorem wpListIn_yes {a : Act} {w : World} {o : Oper} (hw : Region.wanted o (yielded ops a.tmps) = true) (hnd : notDefer o = true)
    (h : ∀ K : Act → World → Prop, (∀ a w, wpListIn (Fr ro) 9 P ops Q rest a w → K a w) → o.uponIn (Fr ro) 9 P a K Q ((execOp a.eval o).run P w)) : wpListIn (Fr ro) 9 P ops Q (o :: rest) a w :=
  wpListIn_step fun K hK => by
    rw [if_pos hw]
    refine ⟨fun _ _ => trivial, ?_⟩
    rw [Oper.semAt_eq _ _ _ (notDefer_spec hnd)]
    exact h K hK
theorem RunLR.val {o : Oper} {v : Value} (hv : Val P r W chg news o v) (hg : guardB ops r o.guard = some true) (hd : o.dst = some d) (hn : Nat.ble (d + 1) n = true)
    (h : RunLR ro P ops Q n rest ((d, v) :: r) ds W chg news) (hnd : notDefer o = true := by rfl) : RunLR ro P ops Q n (o :: rest) r ds W chg news := fun a w s =>
  wpListIn_yes (guardB_spec s.agree hg) hnd fun K hK => by
    rw [hv.run a w s.agree s.mem, Oper.uponIn_value, hd]
    exact hK _ _ (h _ _ (s.put (Nat.le_of_ble_eq_true hn) v))
theorem RunLR.no {o : Oper} (hg : guardB ops r o.guard = some false) (hd : o.dst = some d) (hn : Nat.ble (d + 1) n = true)
    (h : RunLR ro P ops Q n rest ((d, undef) :: r) ds W chg news) : RunLR ro P ops Q n (o :: rest) r ds W chg news := fun a w s =>
  wpListIn_step fun K hK => by
    rw [if_neg (by rw [guardB_spec s.agree hg]; simp)]
    exact ⟨fun _ _ => trivial, hK _ _ (by rw [hd]; exact h _ _ (s.put (Nat.le_of_ble_eq_true hn) undef))⟩
theorem RunLR.new {o : Oper} {v : Nat → Value} {ob : Obj} (hv : New P r W chg news o v ob) (hg : guardB ops r o.guard = some true) (hd : o.dst = some d) (hn : Nat.ble (d + 1) n = true)
    (h : ∀ b, RunLR ro P ops Q n rest ((d, v b) :: r) ds W chg ((b, ob) :: news)) (hnd : notDefer o = true := by rfl) : RunLR ro P ops Q n (o :: rest) r ds W chg news := fun a w s =>
  wpListIn_yes (guardB_spec s.agree hg) hnd fun K hK => by
    rw [hv.run a w s.agree s.mem, Oper.uponIn_value, hd]
    have s2 := s.put (Nat.le_of_ble_eq_true hn) (v w.heap.size)
    exact hK _ _ (h _ _ _ ⟨s2.size, s2.agree, s2.defers, s.mem.alloc ob⟩)
theorem RunLR.sto {o : Oper} {chg' news' : Blks} (hv : Sto P r W chg news o chg' news') (hg : guardB ops r o.guard = some true) (hd : o.dst = none)
    (h : RunLR ro P ops Q n rest r ds W chg' news') (hnd : notDefer o = true := by rfl) : RunLR ro P ops Q n (o :: rest) r ds W chg news := fun a w s =>
  wpListIn_yes (guardB_spec s.agree hg) hnd fun K hK => by
    obtain ⟨w', h1, h2⟩ := hv.run a w s.agree s.mem
    rw [h1, Oper.uponIn_skip, hd]
    exact hK _ _ (h _ _ ⟨s.size, s.agree, s.defers, h2⟩)
theorem RunLR.callP {o : Oper} {f : FuncId} {args : Array Value} {v : Value} (hi : IsCall P r o f args) (hg : guardB ops r o.guard = some true) (hd : o.dst = some d) (hn : Nat.ble (d + 1) n = true)
    (hc : ∀ w, Mem W chg news w → Calls P f args w (Pure v w)) (h : RunLR ro P ops Q n rest ((d, v) :: r) ds W chg news) (hnd : notDefer o = true := by rfl) : RunLR ro P ops Q n (o :: rest) r ds W chg news := fun a w s =>
  wpListIn_yes (guardB_spec s.agree hg) hnd fun K hK => by
    rw [hi.runs a w s.agree, Oper.uponIn_enter]
    refine ⟨fun h => (by cases h), ?_⟩
    have hc' : CallsIn Fence.wide 8 P f args w (Pure v w) := callsIn_wide.2 (hc w s.mem)
    have hc2 : CallsIn (Fr ro) 8 P f args w (Pure v w) := by
      cases ro with
      | none => exact hc'
      | some l => exact CallsIn.inRound l hc'
    refine hc2.mono ?_
    rintro e w' ⟨rfl, hm⟩
    show K _ _
    rw [hd]
    have s2 := s.put (Nat.le_of_ble_eq_true hn) v
    exact hK _ _ (h _ _ ⟨s2.size, s2.agree, s2.defers, s.mem.pass hm⟩)

theorem uponIn_seg {o : Oper} {a : Act} {K K' L : Act → World → Prop} (h : ∀ a w, K a w → K' a w) {x : Result Next} (hh : o.uponIn (Fr ro) 9 P a K (SegQ Q L) x) : o.uponIn (Fr ro) 9 P a K' Q x := by
  cases x with
  | ok nx w' =>
    cases nx <;> simp only [Oper.uponIn] at hh ⊢ <;>
      first
        | exact h _ _ hh
        | exact ⟨hh.1, hh.2.mono (fun e w'' he => by cases e <;> first | exact h _ _ he | exact he)⟩
        | exact ⟨hh.1, RowsIn.mono hh.2 (fun _ _ he => h _ _ he)⟩
        | exact hh
  | halt x w' => cases x <;> simp only [Oper.uponIn] at hh ⊢ <;> exact hh
theorem wpListIn_append {K : Act → World → Prop} {l2 : List Oper} (hK : ∀ a w, K a w → wpListIn (Fr ro) 9 P ops Q l2 a w) : ∀ (l : List Oper) (a : Act) (w : World), wpListIn (Fr ro) 9 P ops (SegQ Q K) l a w → wpListIn (Fr ro) 9 P ops Q (l ++ l2) a w
  | [], a, w, h => hK a w h
  | o :: l, a, w, h => by
    simp only [wpListIn, List.cons_append] at h ⊢
    split
    · rename_i hw
      rw [if_pos hw] at h
      exact ⟨h.1, uponIn_seg (wpListIn_append hK l) h.2⟩
    · rename_i hw
      rw [if_neg hw] at h
      exact ⟨h.1, wpListIn_append hK l _ _ h.2⟩
theorem RunLR.part {l : List Oper} {q : Regs} (k : Nat) (h1 : RunLR ro P ops (SegQ Q (St n q ds W chg news)) n (l.take k) r ds W chg news) (h2 : RunLR ro P ops Q n (l.drop k) q ds W chg news) : RunLR ro P ops Q n l r ds W chg news := by
  have h : RunLR ro P ops Q n (l.take k ++ l.drop k) r ds W chg news := fun a w s => wpListIn_append h2 _ a w (h1 a w s)
  rwa [List.take_append_drop] at h
theorem RunLR.segEnd {q : Regs} {news' : Blks} (hs : Sub q r) (hn : news'.Sublist news) : RunLR ro P ops (SegQ Q (St n q ds W chg news')) n [] r ds W chg news := fun _ _ s => s.sub hs hn
theorem RunLR.andPart {l : List Oper} {b x : Bool} {dj dp : Nat} (k : Nat) (hj : rget r dj = some (.bool b))
    (hyes : b = true → RunLR ro P ops (SegQ Q (St n ((dp, .bool x) :: r) ds W chg news)) n (l.take k) ((dj, .bool true) :: r) ds W chg news)
    (hno : b = false → RunLR ro P ops (SegQ Q (St n ((dp, .bool false) :: r) ds W chg news)) n (l.take k) ((dj, .bool false) :: r) ds W chg news)
    (h2 : RunLR ro P ops Q n (l.drop k) ((dp, .bool (b && x)) :: r) ds W chg news) : RunLR ro P ops Q n l r ds W chg news := by
  refine RunLR.part k ?_ h2
  intro a w s
  cases b with
  | true => exact hyes rfl a w (s.know hj rfl)
  | false => exact hno rfl a w (s.know hj rfl)

/-! ### A call of the round -/
structure IsYield (P : Program) (r : Regs) (o : Oper) (l : Nat) (args : Array Value) : Prop where
  runs : ∀ a w, Agree a r → (execOp a.eval o).run P w = (Instr.yield l args).run P w
theorem isYield_value {x : Operand} {l : Nat} {xs : List Operand} {vs : List Value} {ats : Array TypeId} {dst : Option Tmp} {gd : Option (Nat × Bool)} {ty : TypeId} {pos : String} {after : Array Edge} (hv : rev r x = some (.func (.yield l) #[] #[])) (hx : revs r xs = some vs) :
    IsYield P r { dst, op := .call { callee := .value x, args := xs.toArray, argTypes := ats }, type := ty, pos, after, guard := gd } l vs.toArray :=
  ⟨fun a w ha => by
    have h1 := ha.evals hx
    simp [execOp, resolve, h1, ha.eval hv, Deferred.ofValue, invoke]⟩
/-- The round comes, and the memory is another: what is known of it behind the round is said anew, of the world that it left. -/
theorem RunLR.yield {o : Oper} {l : Nat} {args : Array Value} {RY : Bool → World → Prop} (hi : IsYield P r o l args) (hg : guardB ops r o.guard = some true) (hd : o.dst = some d) (hn : Nat.ble (d + 1) n = true)
    (hy : ∀ w, Mem W chg news w → YieldAt (Fr none) 8 P l args w fun e w' => ∃ b, e = .returned (.bool b) ∧ RY b w')
    (h : ∀ b W', RY b W' → RunLR none P ops Q n rest ((d, .bool b) :: r) ds W' [] []) (hnd : notDefer o = true := by rfl) : RunLR none P ops Q n (o :: rest) r ds W chg news := fun a w s =>
  wpListIn_yes (guardB_spec s.agree hg) hnd fun K hK => by
    obtain ⟨fn, tmps, assign, body, hy1, hy2⟩ := hy w s.mem
    rw [hi.runs a w s.agree, hy1, Oper.uponIn_round]
    refine ⟨fun h => (by cases h), hy2.mono ?_⟩
    rintro e w' ⟨b, rfl, hb⟩
    show K _ _
    rw [hd]
    have s2 := s.put (Nat.le_of_ble_eq_true hn) (.bool b)
    exact hK _ _ (h b w' hb _ _ ⟨s2.size, s2.agree, s2.defers, Mem.refl _⟩)

/-- A loop whose rounds each begin in a world of their own. -/
def RoundW (n : Nat) (ds : List Deferred) (N : Nat) (Inv : Nat → World → Prop) (R : Nat → Regs) (k : Nat) (a : Act) (w : World) : Prop :=
  ∃ k', k < k' ∧ k' ≤ N ∧ Inv k' w ∧ St n (R k') ds w [] [] a w
theorem St.rebase {q : Regs} {a : Act} {w : World} (s : St n r ds W chg news a w) (hs : Sub q r) : St n q ds w [] [] a w := ⟨s.size, s.agree.sub hs, s.defers, Mem.refl w⟩
theorem RunCR.loopW {body : Code} {q : Regs} (N : Nat) (R : Nat → Regs → Regs) (Inv : Nat → World → Prop) (h0 : ∀ w, Mem W chg news w → Inv 0 w) (hs : Sub (R 0 q) r)
    (hb : ∀ k W', k ≤ N → Inv k W' → RunCR ro P (Exit.then (RoundW n ds N Inv (fun k => R k q) k) Q) n body (R k q) ds W' [] []) : RunCR ro P Q n (.loop body) r ds W chg news := by
  have key : ∀ (m k : Nat), N - k < m → k ≤ N → ∀ a w, Inv k w → St n (R k q) ds w [] [] a w → Code.roundsIn (Fr ro) 9 P body Q m a w := by
    intro m
    induction m with
    | zero => intro k h; omega
    | succ m ih =>
      intro k hk hN a w hi s
      rw [roundsIn_succ]
      refine wpIn_mono (hb k w hN hi a w s) ?_
      rintro e a2 w2 hq
      cases e with
      | normal =>
        obtain ⟨k', h1, h2, h3, s2⟩ := hq
        exact ih k' (by omega) h2 a2 w2 h3 s2
      | exit id => exact hq
      | goto l => exact hq
      | ret => exact hq
      | panic c => exact hq
      | outgrown => exact hq
  intro a w s
  exact wpIn_loop_rounds _ (key _ 0 (Nat.lt_succ_self _) (Nat.zero_le _) a w (h0 w s.mem) (s.rebase hs))
theorem RunE.roundW {N : Nat} {Inv : Nat → World → Prop} {R : Nat → Regs} {k : Nat} (hN : k + 1 ≤ N) (hi : ∀ w, Mem W chg news w → Inv (k + 1) w) (hs : Sub (R (k + 1)) r) :
    RunE (Exit.then (RoundW n ds N Inv R k) Q) n .normal r ds W chg news := fun _ w s => ⟨k + 1, Nat.lt_succ_self _, hN, hi w s.mem, s.rebase hs⟩

/-! ### Functions that hold such a loop -/
theorem Mem.grown {w : World} (h : Mem W [] news w) : W.grownBy w none := ⟨h.os, h.tape, h.output, h.size, fun k hk _ => h.old k hk (by simp)⟩
theorem wpIn_any {c : Code} {m k : Nat} {a : Act} {w : World} (h : c.wpIn (Fr ro) m P Q a w) : c.wpIn (Fr ro) k P Q a w := fun b i cs h1 h2 _ => h b i cs h1 h2 (fun _ hd => by cases hd)
theorem callsIn_start {f : FuncId} {fn : Func} {c : Code} {vs : List Value} {R : Ending → World → Prop} (hf : P.funcs[f]? = some fn) (hb : fn.body = some c) (hn : Nat.ble vs.length fn.ntmps = true)
    (h : RunCR none P (bodyPost P fn R) fn.ntmps c (args0 0 vs) [] W [] []) (m : Nat) : CallsIn (Fr none) m P f vs.toArray W R :=
  callsIn_of_wp hf hb trivial (wpIn_any (h _ _ (start_st (Nat.le_of_ble_eq_true hn) (Mem.refl W)))) rfl

/-! ### The loop itself -/
/-- What the body leaves as it was. -/
def KpX (B : Nat) (nm : List Nat) (W W' : World) : Prop := ∀ k, k < B → k ∉ nm → W'.heap[k]? = W.heap[k]?
def BodyQ (W : World) (V : Blks) : Exit → Act → World → Prop
  | .normal, _, w => Mem W V [] w
  | _, _, _ => False
theorem RunE.bodyDone {V : Blks} (hc : chg = V) : RunE (BodyQ W V) n .normal r ds W chg news := fun _ _ s => hc ▸ s.mem.drop
theorem mem_names {l : Blks} {b : Nat} : b ∈ l.map (·.1) ↔ ∃ o, (b, o) ∈ l := by simp
theorem Mem.round {w w' : World} {V V' n0 : Blks} (h : Mem W chg (V ++ n0) w) (h' : Mem w V' [] w') (hm : V'.map (·.1) = V.map (·.1)) : Mem W chg (V' ++ n0) w' := by
  have hV : ∀ b, (∃ o, (b, o) ∈ V') ↔ ∃ o, (b, o) ∈ V := fun b => by rw [← mem_names, ← mem_names, hm]
  have hge : ∀ b o, (b, o) ∈ V' → W.heap.size ≤ b := fun b o hb => by
    obtain ⟨o2, h2⟩ := (hV b).1 ⟨o, hb⟩
    exact (h.newd b o2 (List.mem_append.2 (.inl h2))).1
  have hnd := h.once
  refine ⟨h'.os.trans h.os, h'.tape.trans h.tape, h'.output.trans h.output, Nat.le_trans h.size h'.size, fun k hk hc => ?_, fun b o hb => ?_, fun b o hb => ?_, ?_⟩
  · rw [h'.old k (Nat.lt_of_lt_of_le hk h.size) (fun o ho => by have := hge k o ho; omega)]
    exact h.old k hk hc
  · have h1 := h.chgd b o hb
    refine ⟨h1.1, ?_⟩
    rw [h'.old b (Nat.lt_of_lt_of_le h1.1 h.size) (fun o2 ho => by have := hge b o2 ho; omega)]
    exact h1.2
  · rcases List.mem_append.1 hb with hb | hb
    · exact ⟨hge b o hb, (h'.chgd b o hb).2⟩
    · have h1 := h.newd b o (List.mem_append.2 (.inr hb))
      refine ⟨h1.1, ?_⟩
      rw [h'.old b (h.lt_new (List.mem_append.2 (.inr (List.mem_append.2 (.inr hb))))) (fun o2 ho => ?_)]
      · exact h1.2
      · obtain ⟨o3, h3⟩ := (hV b).1 ⟨o2, ho⟩
        rw [List.map_append, List.map_append, List.nodup_append] at hnd
        have h4 := (List.nodup_append.1 hnd.2.1).2.2 b (mem_names.2 ⟨o3, h3⟩) b (mem_names.2 ⟨o, hb⟩)
        exact h4 rfl
  · have e : (chg ++ (V' ++ n0)).map (·.1) = (chg ++ (V ++ n0)).map (·.1) := by simp [List.map_append, hm]
    rw [e]; exact hnd
theorem Mem.turned {w w' : World} {row : Option Nat} {B : Nat} (h : Mem W chg news w) (hg : w.grownBy w' row) (hr : ∀ k, row = some k → B ≤ k) (hlt : ∀ b o, (b, o) ∈ chg ++ news → b < B) (hW : W.heap.size ≤ B) : Mem W chg news w' := by
  have hne : ∀ k, k < B → some k ≠ row := fun k hk e => by have := hr k e.symm; omega
  refine ⟨hg.os.trans h.os, hg.tape.trans h.tape, hg.output.trans h.output, Nat.le_trans h.size hg.size, fun k hk hc => ?_, fun b o hb => ?_, fun b o hb => ?_, h.once⟩
  · rw [hg.block k (Nat.lt_of_lt_of_le hk h.size) (hne k (by omega))]; exact h.old k hk hc
  · have h1 := h.chgd b o hb
    exact ⟨h1.1, by rw [hg.block b (h.lt_new (List.mem_append.2 (.inl hb))) (hne b (hlt b o (List.mem_append.2 (.inl hb))))]; exact h1.2⟩
  · have h1 := h.newd b o hb
    exact ⟨h1.1, by rw [hg.block b (h.lt_new (List.mem_append.2 (.inr hb))) (hne b (hlt b o (List.mem_append.2 (.inr hb))))]; exact h1.2⟩

/-- 'for x := range seq': the blocks V turn from round to round; all else that was known stays. -/
theorem RunC.rangeFunc {α : Type} {g : Operand} {p q gf N id : Nat} {lb : Array Value} {enc : α → Value} {S : List α → Prop} {oA : Oper} {body : Code} (V : List α → Blks) (n0 : Blks)
    (hg : rev r g = some (.func (.func gf) #[] lb)) (he : Enters P gf) (hn : Pick (V [] ++ n0) news) (hnm : ∀ pre, (V pre).map (·.1) = (V []).map (·.1)) (hcl : ∀ pre b o, (b, o) ∈ V pre → o.isCells = true)
    (hseq : ∀ w, Mem W chg (V [] ++ n0) w → SeqStopsK (Fr none) 8 P gf lb (fun x => #[enc x]) (KpX w.heap.size ((V []).map (·.1))) S (fun _ => True) N w)
    (hp : Nat.ble (p + 1) n = true) (hq : Nat.ble (q + 1) n = true) (hA : ∀ v, pureV ((p, v) :: r) oA.op = some v) (hAg : oA.guard = none) (hAd : oA.dst = some q) (hAn : notDefer oA = true)
    (hbody : ∀ l pre x W1, pre.length < N → Mem W chg (V pre ++ n0) W1 → RunCR (some l) P (BodyQ W1 (V (pre ++ [x]))) n body ((q, enc x) :: (p, enc x) :: r) [] W1 (V pre) [])
    (h : ∀ xs D, S xs → RunE Q n .normal r ({ target := .collected D, args := #[] } :: ds) W chg ((D, .deferred (some [])) :: (V xs ++ n0))) :
    RunC P Q n (.rangeFunc g #[p] (.region id #[oA] false) body) r ds W chg news := fun a w s => by
  have s0 := s.mem.pick hn
  have hlt : ∀ pre b o, (b, o) ∈ chg ++ (V pre ++ n0) → b < w.heap.size := fun pre b o hb => by
    rcases List.mem_append.1 hb with hb | hb
    · exact s0.lt_new (List.mem_append.2 (.inl hb))
    · rcases List.mem_append.1 hb with hb | hb
      · have : b ∈ (V pre).map (·.1) := mem_names.2 ⟨o, hb⟩
        rw [hnm pre] at this
        obtain ⟨o2, h2⟩ := mem_names.1 this
        exact s0.lt_new (List.mem_append.2 (.inr (List.mem_append.2 (.inl h2))))
      · exact s0.lt_new (List.mem_append.2 (.inr (List.mem_append.2 (.inr hb))))
  have hge : ∀ pre b o, (b, o) ∈ V pre → W.heap.size ≤ b := fun pre b o hb => by
    have : b ∈ (V pre).map (·.1) := mem_names.2 ⟨o, hb⟩
    rw [hnm pre] at this
    obtain ⟨o2, h2⟩ := mem_names.1 this
    exact (s0.newd b o2 (List.mem_append.2 (.inl h2))).1
  have hown : OwnFrom w.heap.size (fun (pre : List α) W' => Mem W chg (V pre ++ n0) W' ∧ w.heap.size ≤ W'.heap.size) := fun pre A B row hI hgr hr => ⟨hI.1.turned hgr (fun k e => (hr k e).1) (hlt pre) s0.size, Nat.le_trans hI.2 hgr.size⟩
  refine (wpIn_wide (n := 9)).1 ?_
  show Code.wpIn (Fr none) 9 P _ Q a w
  refine wpIn_rangeFunc_ownG (F := Fr none) (n := 9) rfl (by decide) (s.agree.eval hg) trivial he (hseq w s0) (fun {A B C} h1 h2 k hk hne => (h2 k hk hne).trans (h1 k hk hne)) ?_ (Below.refl _ w) (fun _ => rfl)
    (fun pre W' => Mem W chg (V pre ++ n0) W' ∧ w.heap.size ≤ W'.heap.size) (fun _ _ _ => False) hown (fun _ _ _ _ _ hf _ _ => hf) ⟨s0, Nat.le_refl _⟩ (fun x => ({ tmps := a.tmps.setIfInBounds p (enc x), defers := [] } : Act).put (some q) (enc x)) ?assign ?body ?done ?stop
  · intro W' l o o' hl _ _ _ k hk _
    exact World.putObj_heap_other (by omega)
  case assign =>
    intro l x W' K hK
    have hsz : p < a.tmps.size := by rw [s.size]; exact Nat.le_of_ble_eq_true hp
    have hag : Agree (({ tmps := a.tmps, defers := [] } : Act).put (some p) (enc x)) ((p, enc x) :: r) := Agree.put (a := { tmps := a.tmps, defers := [] }) (fun t u ht => s.agree t u ht) hsz
    have e : (#[p].zip #[enc x]).foldl (fun t (pv : Nat × Value) => t.setIfInBounds pv.1 pv.2) a.tmps = a.tmps.setIfInBounds p (enc x) := by simp
    refine wpIn_region_lit (l := [oA]) (wpListIn_plain hAg fun K2 hK2 => ?_)
    refine ⟨fun _ _ => trivial, ?_⟩
    rw [Oper.semAt_eq _ _ _ (notDefer_spec hAn)]
    have hrun := pureV_sound (P := P) (o := oA) hag (hA (enc x)) W'
    have e2 : (({ tmps := a.tmps, defers := [] } : Act).put (some p) (enc x)) = { tmps := (#[p].zip #[enc x]).foldl (fun t (pv : Nat × Value) => t.setIfInBounds pv.1 pv.2) a.tmps, defers := [] } := by rw [e]; rfl
    rw [e2] at hrun
    rw [hrun, Oper.uponIn_value, hAd]
    refine hK2 _ _ ?_
    show K _ _
    rw [e]
    exact hK
  case body =>
    intro l pre x W1 ⟨hI, hsz1⟩ hlen
    have hsz : p < a.tmps.size := by rw [s.size]; exact Nat.le_of_ble_eq_true hp
    have hsz2 : q < a.tmps.size := by rw [s.size]; exact Nat.le_of_ble_eq_true hq
    have hag : Agree (({ tmps := a.tmps, defers := [] } : Act).put (some p) (enc x)) ((p, enc x) :: r) := Agree.put (a := { tmps := a.tmps, defers := [] }) (fun t u ht => s.agree t u ht) hsz
    have hag2 := hag.put (d := q) (v := enc x) (by simp [Act.put]; exact hsz2)
    have hst : Mem W1 (V pre) [] W1 := ⟨rfl, rfl, rfl, Nat.le_refl _, fun _ _ _ => rfl, fun b o hb => ⟨hI.lt_new (List.mem_append.2 (.inr (List.mem_append.2 (.inl hb)))), (hI.newd b o (List.mem_append.2 (.inl hb))).2⟩, fun _ _ hb => (by cases hb), by
      have := hI.once
      rw [List.map_append, List.map_append, List.nodup_append] at this
      simpa using (List.nodup_append.1 this.2.1).1⟩
    have hb := hbody l pre x W1 hlen hI _ W1 ⟨by simp [Act.put, s.size], hag2, rfl, hst⟩
    refine wpIn_mono (wpIn_any hb) ?_
    intro e a2 w2 hq
    cases e with
    | normal =>
      have hq : Mem W1 (V (pre ++ [x])) [] w2 := hq
      have hnot : ∀ k, k ∉ (V []).map (·.1) → ∀ o, (k, o) ∉ V (pre ++ [x]) := fun k hk o ho => hk (by rw [← hnm (pre ++ [x])]; exact mem_names.2 ⟨o, ho⟩)
      refine ⟨⟨hq.size, fun k o hB hk ho => ?_⟩, fun k hk hne => hq.old k (Nat.lt_of_lt_of_le hk hsz1) (hnot k hne), hI.round hq (by rw [hnm, hnm pre]), Nat.le_trans hsz1 hq.size⟩
      · rw [hq.old k (Array.getElem?_eq_some_iff.1 hk).1 (fun o2 ho2 => ?_)]
        · exact hk
        · have := hlt (pre ++ [x]) k o2 (List.mem_append.2 (.inr (List.mem_append.2 (.inl ho2))))
          omega
    | exit id => exact hq.elim
    | goto l => exact hq.elim
    | ret => exact hq.elim
    | panic c => exact hq.elim
    | outgrown => exact hq.elim
  case done =>
    intro D xs W' hD hS ⟨hI, _⟩ hK
    refine h xs D hS _ W' ⟨s.size, s.agree, by rw [← s.defers], ?_⟩
    refine { hI with newd := fun b o hb => ?_, once := ?_ }
    · rcases List.mem_cons.1 hb with hb | hb
      · cases hb; exact ⟨Nat.le_trans s0.size hD, hK⟩
      · exact hI.newd b o hb
    · have hnd := hI.once
      rw [List.map_append, List.nodup_append] at hnd ⊢
      refine ⟨hnd.1, ?_, ?_⟩
      · rw [List.map_cons, List.nodup_cons]
        refine ⟨fun hm => ?_, hnd.2.1⟩
        obtain ⟨o, ho⟩ := mem_names.1 hm
        have := hlt xs D o (List.mem_append.2 (.inr ho))
        omega
      · intro b hb c hc
        rw [List.map_cons, List.mem_cons] at hc
        rcases hc with rfl | hc
        · obtain ⟨o, ho⟩ := mem_names.1 hb
          have := hlt xs b o (List.mem_append.2 (.inl ho))
          intro e; subst e; omega
        · exact hnd.2.2 b hb c hc
  case stop =>
    intro D c pre W' _ _ hf
    exact hf.elim

/-! ### Leaving such a function: the loop's mark, and one deferred call -/
structure CatchesIn (P : Program) (f : FuncId) (T : TypeId) (mis : Int → Value) : Prop where
  calm : ∀ b w, CallsDIn Fence.wide 8 P f #[.pointer (some ⟨b, 0, none⟩)] .returning w fun e u w' => (∃ v, e = .returned v) ∧ u = .returning ∧ Mem w [] [] w'
  wild : ∀ b k x w, w.heap[b]? = some (.cells #[x] T (0, 0)) → CallsDIn Fence.wide 8 P f #[.pointer (some ⟨b, 0, none⟩)] (.panicking [{ v := mis k, recovered := false }]) w fun e u w' =>
    (∃ v, e = .returned v) ∧ u = .panicking [{ v := mis k, recovered := true }] ∧ Mem w [(b, .cells #[.int .i64 k] T (0, 0))] [] w'
theorem calls_start_marks {f : FuncId} {fn : Func} {c : Code} {vs : List Value} {R : Ending → World → Prop} (hf : P.funcs[f]? = some fn) (hb : fn.body = some c) (hn : Nat.ble vs.length fn.ntmps = true)
    (h : RunC P (bodyPostM Fence.wide 9 P fn R) fn.ntmps c (args0 0 vs) [] W [] []) : Calls P f vs.toArray W R :=
  (callsIn_wide (n := 9)).1 (callsIn_of_wp_marks hf hb trivial (wpIn_wide.2 (h _ _ (start_st (Nat.le_of_ble_eq_true hn) (Mem.refl W)))) rfl)
theorem Mem.putNew {w : World} {D : Nat} {o : Obj} (o' : Obj) (h : Mem W chg ((D, o) :: news) w) : Mem W chg news (w.putObj D o') := by
  have hD := (h.newd D o (List.mem_cons_self ..)).1
  have hnd := h.once
  rw [List.map_append, List.map_cons, List.nodup_append, List.nodup_cons] at hnd
  refine ⟨h.os, h.tape, h.output, by simpa using h.size, fun k hk hc => ?_, fun b o2 hb => ?_, fun b o2 hb => ?_, ?_⟩
  · rw [World.putObj_heap_other (by omega)]; exact h.old k hk hc
  · have h1 := h.chgd b o2 hb
    exact ⟨h1.1, by rw [World.putObj_heap_other (by omega)]; exact h1.2⟩
  · have h1 := h.newd b o2 (List.mem_cons_of_mem _ hb)
    refine ⟨h1.1, ?_⟩
    rw [World.putObj_heap_other (fun e => hnd.2.1.1 (by subst e; exact mem_names.2 ⟨o2, hb⟩))]
    exact h1.2
  · rw [List.map_append, List.nodup_append]
    exact ⟨hnd.1, hnd.2.1.2, fun a ha b hb => hnd.2.2 a ha b (List.mem_cons_of_mem _ hb)⟩
theorem leavesM_calm {fn : Func} {f : FuncId} {T : TypeId} {mis : Int → Value} {v v0 : Value} {b : Nat} (hc : CatchesIn P f T mis) (he : Enters P f) (hv : ResVs P r news fn v) (hv0 : v = v0) {a : Act} {w : World} (hag : Agree a r) (hm : Mem W [] news w) :
    LeavesInM Fence.wide 9 P fn a.tmps (Pure v0 W) [{ target := .fn (.func f) #[], args := #[.pointer (some ⟨b, 0, none⟩)] }] .returning w := by
  refine ⟨by simp, .inr ⟨fun h => (by cases h), _, _, f, #[.pointer (some ⟨b, 0, none⟩)], rfl, by simp [invoke]; exact he _ _, fun _ _ => trivial, (hc.calm b w).mono ?_⟩⟩
  rintro e u w' ⟨⟨x, rfl⟩, rfl, hm'⟩
  have hm2 := hm.pass hm'
  exact ⟨v, hv.run hag (fun _ _ h => hm2.at (by simpa using h)), by rw [hv0], hm2.drop⟩
theorem RunE.retM {fn : Func} {f : FuncId} {T : TypeId} {mis : Int → Value} {v v0 : Value} {b D : Nat} {news2 : Blks} (hc : CatchesIn P f T mis) (he : Enters P f) (ht : Take (D, .deferred (some [])) news news2) (hv : ResVs P r news2 fn v) (hv0 : v = v0) :
    RunE (bodyPostM Fence.wide 9 P fn (Pure v0 W)) n .ret r [{ target := .collected D, args := #[] }, { target := .fn (.func f) #[], args := #[.pointer (some ⟨b, 0, none⟩)] }] W [] news := fun a w s => by
  show LeavesInM _ _ _ _ _ _ a.defers _ w
  rw [s.defers]
  have hm := s.mem.pick (Pick.cons ht rfl (Pick.refl news2))
  exact ⟨by simp, .inl ⟨D, _, rfl, run_takeDeferred (hm.newd D _ (List.mem_cons_self ..)).2, leavesM_calm hc he hv hv0 s.agree (hm.putNew _)⟩⟩
theorem RunE.panM {fn : Func} {f : FuncId} {T : TypeId} {mis : Int → Value} {v v0 x : Value} {b : Nat} {k : Int} {news' : Blks} (hc : CatchesIn P f T mis) (he : Enters P f) (hu : Upd news b (.cells #[x] T (0, 0)) (.cells #[.int .i64 k] T (0, 0)) news') (hv : ResVs P r news' fn v) (hv0 : v = v0) :
    RunE (bodyPostM Fence.wide 9 P fn (Pure v0 W)) n (.panic [{ v := mis k, recovered := false }]) r [{ target := .fn (.func f) #[], args := #[.pointer (some ⟨b, 0, none⟩)] }] W [] news := fun a w s => by
  show LeavesInM _ _ _ _ _ _ a.defers _ w
  rw [s.defers]
  refine ⟨by simp, .inr ⟨fun h => (by cases h), _, _, f, #[.pointer (some ⟨b, 0, none⟩)], rfl, by simp [invoke]; exact he _ _, fun _ _ => trivial, (hc.wild b k x w (s.mem.newd _ _ hu.mem).2).mono ?_⟩⟩
  rintro e u w' ⟨⟨y, rfl⟩, rfl, hm⟩
  have hm2 := s.mem.turn_new hu hm
  exact ⟨v, hv.run s.agree (fun _ _ h => hm2.at (by simpa using h)), by rw [hv0], hm2.drop⟩

theorem RunLR.ways {l : List Oper} {b : Bool} {dj : Nat} (hj : rget r dj = some (.bool b)) (h1 : b = true → RunLR ro P ops Q n l ((dj, .bool true) :: r) ds W chg news) (h2 : b = false → RunLR ro P ops Q n l ((dj, .bool false) :: r) ds W chg news) : RunLR ro P ops Q n l r ds W chg news := fun a w s => by
  cases b with
  | true => exact h1 rfl a w (s.know hj rfl)
  | false => exact h2 rfl a w (s.know hj rfl)
theorem yieldAt_any {m k l : Nat} {args : Array Value} {w : World} {R R' : Ending → World → Prop} (h : YieldAt (Fr none) m P l args w R) (hR : ∀ e w', R e w' → R' e w') : YieldAt (Fr none) k P l args w R' := by
  obtain ⟨fn, tmps, assign, body, h1, h2⟩ := h
  exact ⟨fn, tmps, assign, body, h1, trivial, fun c cs _ => let ⟨e, w', r, s⟩ := h2.2 c cs (fun _ hd => by cases hd); ⟨e, w', hR _ _ r, s⟩⟩
theorem Sl.kp {W W' : World} {p : Option Addr} {b o sz : Nat} {xs : List (List Value)} (h : Sl W p b o sz xs) (hk : xs ≠ [] → W'.heap[b]? = W.heap[b]?) : Sl W' p b o sz xs :=
  ⟨h.at', h.len, fun i hi j hj => by rw [World.cell?_of_block (a := ⟨b, o + i * sz + j, none⟩) (hk (by rintro rfl; simp at hi))]; exact h.cell i hi j hj⟩
theorem Mem.apart {w : World} {V n0 : Blks} (h : Mem W chg (V ++ n0) w) {b : Nat} {o : Obj} (hb : (b, o) ∈ n0) : b < w.heap.size ∧ b ∉ V.map (·.1) := by
  refine ⟨h.lt_new (List.mem_append.2 (.inr (List.mem_append.2 (.inr hb)))), fun hc => ?_⟩
  have hnd := h.once
  rw [List.map_append, List.map_append, List.nodup_append] at hnd
  exact (List.nodup_append.1 hnd.2.1).2.2 b hc b (mem_names.2 ⟨o, hb⟩) rfl
theorem Mem.oldApart {w : World} {V n0 : Blks} (h : Mem W chg (V ++ n0) w) {b : Nat} (hb : b < W.heap.size) : b < w.heap.size ∧ b ∉ V.map (·.1) := by
  refine ⟨Nat.lt_of_lt_of_le hb h.size, fun hc => ?_⟩
  obtain ⟨o, ho⟩ := mem_names.1 hc
  have := (h.newd b o (List.mem_append.2 (.inl ho))).1
  omega
theorem Sl.mono' {w : World} {p : Option Addr} {b o sz : Nat} {xs : List (List Value)} (h : Sl W p b o sz xs) (hz : 0 < sz) (hm : Mem W chg news w) (hc : xs ≠ [] → ∀ ob, (b, ob) ∉ chg) : Sl w p b o sz xs := by
  cases xs with
  | nil => exact ⟨h.at', h.len, fun i hi => by simp at hi⟩
  | cons x xs => exact h.mono hz hm (hc (by simp))
theorem Sl.lt0 {p : Option Addr} {b o sz : Nat} {xs : List (List Value)} (h : Sl W p b o sz xs) (hz : 0 < sz) (hx : xs ≠ []) : b < W.heap.size := h.lt hz (i := 0) (List.length_pos_iff.2 hx)
end
end Go.Eng
/- The engine: arguments that are read as data, by their shapes; and a law's statement out of its walk. No program is in sight. -/
namespace Go.Eng
open Go Go.RowKit Go.ChangeShapes Go.WideShapes Go.ChangeAt

/-- A type's shape: numbers, truth values, texts, structs of these, and slices of them. -/
inductive Sh where
  | int (k : IntKind)
  | bool
  | str
  | st (l : List Sh)
  | sl (e : Sh)
mutual
def Sh.size : Sh → Nat
  | .st l => sizes l
  | _ => 1
def sizes : List Sh → Nat
  | [] => 0
  | s :: l => s.size + sizes l
end
def offsB (P : Program) : Nat → List Field → List Sh → Bool
  | _, [], [] => true
  | o, f :: fs, s :: l => f.offset == o && P.cellsOf f.type == s.size && offsB P (o + s.size) fs l
  | _, _, _ => false
def shapeB (P : Program) : Nat → TypeId → Option Sh
  | 0, _ => none
  | n + 1, t => match P.underlying t with
    | some .bool => some .bool
    | some (.int k) => some (.int k)
    | some .string => some .str
    | some (.slice e) => match shapeB P n e with
      | some s => if P.cellsOf e = s.size ∧ 0 < s.size then some (.sl s) else none
      | none => none
    | some (.struct fs) => match fs.toList.mapM (fun f => shapeB P n f.type) with
      | some l => if offsB P 0 fs.toList l = true ∧ P.cellsOf t = sizes l then some (.st l) else none
      | none => none
    | _ => none

/-- Cells that read as a shape. -/
inductive Rd (w : World) : Sh → List Value → Prop
  | int {k : IntKind} {n : Int} (h : (Lit.int k n).wf = true) : Rd w (.int k) [.int k n]
  | bool {b : Bool} : Rd w .bool [.bool b]
  | str {s : ByteArray} (h : s.size ≤ maxLen) : Rd w .str [.string s]
  | rec0 : Rd w (.st []) []
  | recS {s : Sh} {l : List Sh} {cs ds : List Value} (h : Rd w s cs) (hl : Rd w (.st l) ds) : Rd w (.st (s :: l)) (cs ++ ds)
  | slNil {e : Sh} : Rd w (.sl e) [.slice none 0 0]
  | sl {e : Sh} {a : Addr} {cap : Nat} {xs : List (List Value)} (h : Sl w (some a) a.block a.off e.size xs) (hl : xs.length ≤ cap) (hc : cap ≤ maxLen) (hx : ∀ x ∈ xs, Rd w e x) : Rd w (.sl e) [.slice (some a) xs.length cap]
def Sh.val : Sh → List Value → Value
  | .st _, cs => .agg cs.toArray
  | _, cs => cs.headD undef
inductive RdAll (w : World) : List Sh → List Value → Prop
  | nil : RdAll w [] []
  | cons {s : Sh} {l : List Sh} {cs : List Value} {vs : List Value} (h : Rd w s cs) (hl : RdAll w l vs) : RdAll w (s :: l) (s.val cs :: vs)

theorem list_of {α : Type} {p : Nat → α → Prop} : ∀ n : Nat, (∀ i, i < n → ∃ x, p i x) → ∃ xs : List α, xs.length = n ∧ ∀ i (h : i < xs.length), p i xs[i]
  | 0, _ => ⟨[], rfl, fun i h => by simp at h⟩
  | n + 1, h => by
    obtain ⟨xs, hl, hx⟩ := list_of n (fun i hi => h i (by omega))
    obtain ⟨x, hp⟩ := h n (by omega)
    refine ⟨xs ++ [x], by simp [hl], fun i hi => ?_⟩
    rw [List.getElem_append]
    split
    · exact hx i _
    · simp only [List.length_append, List.length_singleton] at hi
      obtain rfl : i = n := by omega
      simpa using hp

section
variable {H : Type} {enc : TypeId × Value → H} {P : Program} {w : World} {base : Nat} {spare : Nat → Bool} {held : Bool}
theorem rd_fields {cs : List Value} : ∀ (fs : List Field) (l : List Sh) (o : Nat), offsB P o fs l = true → (∀ (i : Nat) (f : Field) (s : Sh), fs[i]? = some f → l[i]? = some s → Rd w s ((cs.drop f.offset).take (P.cellsOf f.type))) → cs.length = o + sizes l → Rd w (.st l) (cs.drop o)
  | [], [], o, _, _, hl => by rw [List.drop_of_length_le (by simp [sizes] at hl; omega)]; exact .rec0
  | [], _ :: _, _, h, _, _ => by simp [offsB] at h
  | _ :: _, [], _, h, _, _ => by simp [offsB] at h
  | f :: fs, s :: l, o, h, hr, hl => by
    simp only [offsB, Bool.and_eq_true, beq_iff_eq] at h
    obtain ⟨⟨h1, h2⟩, h3⟩ := h
    have r0 := hr 0 f s rfl rfl
    rw [h1, h2] at r0
    have r1 := rd_fields fs l (o + s.size) h3 (fun i f' s' hf hs => hr (i + 1) f' s' (by simpa using hf) (by simpa using hs)) (by simp only [sizes] at hl; omega)
    have e : cs.drop o = (cs.drop o).take s.size ++ cs.drop (o + s.size) := by
      rw [← List.drop_drop, List.take_append_drop]
    rw [e]
    exact .recS r0 r1
theorem rd_of : ∀ (n fuel : Nat) (t : TypeId) (sh : Sh) (cs : List Value) (x : DataW H × List MemPlace), shapeB P n t = some sh → DataW.trod enc P w base spare held fuel t cs = some x → Rd w sh cs := by
  intro n
  induction n with
  | zero => intro fuel t sh cs x hs; cases hs
  | succ n ih =>
    intro fuel t sh cs x hs h
    unfold shapeB at hs
    split at hs
    · rename_i hu
      cases hs
      cases fuel with
      | zero => simp [DataW.trod] at h
      | succ fuel =>
        unfold DataW.trod at h
        rw [hu] at h
        split at h <;> simp_all <;> exact .bool
    · rename_i k hu
      cases hs
      cases fuel with
      | zero => simp [DataW.trod] at h
      | succ fuel =>
        unfold DataW.trod at h
        rw [hu] at h
        split at h <;> simp_all
        rename_i h1
        obtain ⟨rfl, rfl⟩ := h1
        exact .int h.1.2
    · rename_i hu
      cases hs
      cases fuel with
      | zero => simp [DataW.trod] at h
      | succ fuel =>
        unfold DataW.trod at h
        rw [hu] at h
        split at h <;> simp_all
        exact .str h.1
    · rename_i e hu
      split at hs
      · rename_i s he
        split at hs
        · rename_i hc
          cases hs
          rcases Deep.open_slice hu h with ⟨rfl, _⟩ | ⟨a, len, cap, m, n', D, Pl, rfl, hb, hl, hm, hmm, hx, hi⟩
          · exact .slNil
          · have hle : len ≤ m := by rw [hmm]; split <;> omega
            obtain ⟨xs, hxl, hxs⟩ := list_of (p := fun i cs' => w.cells? base (a.add (i * P.cellsOf e)) (P.cellsOf e) = some cs' ∧ DataW.trod enc P w base spare held n' e cs' = some (D i, Pl i)) len (fun i h => hi i (by omega))
            subst hxl
            refine .sl ⟨fun hne => ?_, fun x hx => ?_, fun i hi j hj => ?_⟩ hl hm (fun x hx => ?_)
            · have h0 : 0 < xs.length := List.length_pos_iff.2 hne
              obtain ⟨_, h2, h3⟩ := World.cells?_some (hxs 0 h0).1
              have h4 := h3 0 (by omega)
              rw [List.getElem?_eq_getElem (by omega)] at h4
              have h5 := World.cell?_spot h4
              obtain ⟨b, o, sp⟩ := a
              simp only [Nat.zero_mul, Addr.add, if_true] at h5
              rw [h5]
            · obtain ⟨i, hi, rfl⟩ := List.getElem_of_mem hx
              have := (World.cells?_some (hxs i hi).1).2.1
              omega
            · obtain ⟨_, h2, h3⟩ := World.cells?_some (hxs i hi).1
              rw [hc.1] at h2 h3
              have h4 := h3 j hj
              rw [← h4]
              have hsp : a.spot = none := by
                obtain ⟨_, h2', h3'⟩ := World.cells?_some (hxs 0 (by omega)).1
                have h4' := h3' 0 (by omega)
                rw [List.getElem?_eq_getElem (by omega)] at h4'
                have h5 := World.cell?_spot h4'
                simpa [Addr.add] using h5
              obtain ⟨b, o, sp⟩ := a
              simp only at hsp
              subst hsp
              congr 1
              unfold Addr.add
              by_cases hz : i * s.size = 0 <;> by_cases hz2 : j = 0 <;> simp [hz, hz2]
            · obtain ⟨i, hi, rfl⟩ := List.getElem_of_mem hx
              exact ih _ _ _ _ _ he (hxs i hi).2
        · cases hs
      · cases hs
    · rename_i fs hu
      split at hs
      · rename_i l he
        split at hs
        · rename_i hc
          cases hs
          obtain ⟨xs, n', _, _, hlen, hxl, hf⟩ := DataW.trod_struct hu h
          have hll : ∀ (i : Nat) (f : Field) (s : Sh), fs.toList[i]? = some f → l[i]? = some s → shapeB P n f.type = some s := by
            clear hc hf hxl
            generalize fs.toList = fl at he
            induction fl generalizing l with
            | nil => intro i f s h; simp at h
            | cons f0 fl ihf =>
              simp only [List.mapM_cons, Option.bind_eq_bind, Option.bind_eq_some_iff, Option.pure_def, Option.some.injEq] at he
              obtain ⟨s0, h0, l0, hl0, rfl⟩ := he
              intro i f s hi hs
              cases i with
              | zero => simp at hi hs; subst hi; subst hs; exact h0
              | succ i => exact ihf l0 hl0 i f s (by simpa using hi) (by simpa using hs)
          have := rd_fields (cs := cs) fs.toList l 0 hc.1 (fun i f s hi hs => by
            have h1 := hf i f (by simpa using hi)
            have hlt : i < fs.size := by have := (List.getElem?_eq_some_iff.1 hi).1; simpa using this
            rw [List.getElem?_eq_getElem (by omega)] at h1
            exact ih _ _ _ _ _ (hll i f s hi hs) h1) (by omega)
          simpa using this
        · cases hs
      · cases hs
    · cases hs
theorem val_of {n : Nat} {r : Reach} {b0 : Nat} {t : TypeId} {sh : Sh} {v : Value} (hs : shapeB P n t = some sh) (hv : Value.okWide P w r b0 t v) : v = sh.val v.cells.toList := by
  cases n with
  | zero => cases hs
  | succ n =>
    unfold shapeB at hs
    split at hs
    · rename_i hu; cases hs; obtain ⟨b, rfl⟩ := okWide_bool hu hv; rfl
    · rename_i hu; cases hs; obtain ⟨b, rfl⟩ := okWide_int hu hv; rfl
    · rename_i hu; cases hs; obtain ⟨b, rfl⟩ := okWide_string hu hv; rfl
    · rename_i hu
      obtain ⟨a, l, c, rfl⟩ := okWide_slice hu hv
      split at hs
      · split at hs
        · cases hs; rfl
        · cases hs
      · cases hs
    · rename_i hu
      obtain ⟨cs, rfl, _⟩ := okWide_struct hu hv
      split at hs
      · split at hs
        · cases hs; simp [Sh.val, Value.cells]
        · cases hs
      · cases hs
    · cases hs
theorem rdAll_of {n : Nat} {r : Reach} {b0 : Nat} : ∀ {ts : List TypeId} {shs : List Sh} {vs : List Value} {ds : List (DataW H)} {ps : List MemPlace}, ts.mapM (shapeB P n) = some shs →
    (∀ (j : Nat) t v, ts[j]? = some t → vs[j]? = some v → Value.okWide P w r b0 t v) → DataW.TrodAll enc P w base spare held ts vs ds ps → RdAll w shs vs
  | [], shs, vs, ds, ps, hs, _, h => by
    obtain ⟨rfl, _, _⟩ := trodAll_nil h
    simp at hs; subst hs; exact .nil
  | t :: ts, shs, vs, ds, ps, hs, hv, h => by
    obtain ⟨v, vs', d, ds', p, q, rfl, rfl, rfl, h0, hr⟩ := trodAll_cons h
    simp only [List.mapM_cons, Option.bind_eq_bind, Option.bind_eq_some_iff, Option.pure_def, Option.some.injEq] at hs
    obtain ⟨s0, hs0, l0, hl0, rfl⟩ := hs
    obtain ⟨fuel, hf⟩ := h0
    have hr' := rd_of n fuel t s0 _ _ hs0 hf
    have hv0 := val_of hs0 (hv 0 t v rfl rfl)
    have ih := rdAll_of hl0 (fun j t' v' hj hv' => hv (j + 1) t' v' (by simpa using hj) (by simpa using hv')) hr
    rw [hv0]
    exact .cons hr' ih
end

/-! ### The law's statement -/
theorem trodAll_below {H : Type} {enc : TypeId × Value → H} {P : Program} (hl : laidOutB P = true) {W W' : World} (hb : Below W.heap.size W W') : ∀ {ts : List TypeId} {vs : List Value} {ds : List (DataW H)} {ps : List MemPlace},
    ts.all (fun t => P.readableRec t && decide (t < P.types.size)) = true → DataW.TrodAll enc P W 0 (fun _ => true) true ts vs ds ps → DataW.TrodAll enc P W' 0 (fun b => decide (b < W.heap.size)) true ts vs ds ps
  | [], [], [], _, _, h => h
  | [], _ :: _, _, _, _, h => h.elim
  | [], [], _ :: _, _, _, h => h.elim
  | _ :: _, [], _, _, _, h => h.elim
  | _ :: _, _ :: _, [], _, _, h => h.elim
  | t :: ts, v :: vs, d :: ds, ps, hp, h => by
    obtain ⟨p, q, h0, hr, rfl⟩ := h
    simp only [List.all_cons, Bool.and_eq_true, decide_eq_true_eq] at hp
    have hlt : ∀ x ∈ p, x.block < W.heap.size := by obtain ⟨m, hm⟩ := h0; exact DataW.trod_lt m _ _ _ hm
    exact ⟨p, q, Below.trod hl hp.1.1 hp.1.2 h0 hb hlt, trodAll_below hl hb (by simpa [List.all_eq_true] using hp.2) hr, rfl⟩

theorem law_contract {H : Type} {enc : TypeId × Value → H} {P : Program} {f : Func} {s : ChangeSpec} {n : Nat} {shs : List Sh} {tb : TypeId} {F : FuncId} (hl : laidOutB P = true) (hsh : f.params.toList.mapM (shapeB P n) = some shs)
    (hp : f.params.toList.all (fun t => P.readableRec t && decide (t < P.types.size)) = true) (hr : f.resultTypes = #[tb]) (hb : P.underlying tb = some .bool) (hvars : s.vars = [])
    (hfn : ∀ ds : List (DataW H), ds.length = f.params.toList.length → s.fn H (ds ++ []) = { results := [.lit (.bool true)], args := ds })
    (walk : ∀ (W : World) (vs : List Value), RdAll W shs vs → Calls P F vs.toArray W (Pure (.bool true) W))
    {W : World} {base : Nat} {args : Array Value} {ds gs : List (DataW H)} {before : List MemPlace} (hval : ∀ (j : Nat) t v, f.params[j]? = some t → args[j]? = some v → Value.okWide P W .any base t v)
    (hW : DataW.Whole enc P f.params.toList s.vars false W args.toList ds gs before) :
    Calls P F args W fun e W' => ∃ v, e = .returned v ∧ s.post enc P f false true false false W args v W' := by
  have hW' := hW
  obtain ⟨p, q, hA, hV, rfl, hfz, hnd⟩ := hW
  rw [hvars] at hV
  obtain ⟨rfl, rfl⟩ := trodVars_none hV
  have hrd : RdAll W shs args.toList := rdAll_of hsh (fun j t v hj hv => hval j t v (by simpa using hj) (by simpa using hv)) hA
  have hlen : ds.length = f.params.toList.length := by
    clear hW' hval hrd hfn hp hsh hfz hnd hV
    generalize f.params.toList = ts at hA
    generalize args.toList = vs at hA
    induction ts generalizing vs ds p with
    | nil => obtain ⟨_, rfl, _⟩ := trodAll_nil hA; rfl
    | cons t ts ih =>
      obtain ⟨v, vs', d, ds', p, q, rfl, rfl, rfl, h0, hr⟩ := trodAll_cons hA
      simp [ih _ _ hr]
  refine (walk W args.toList hrd).mono fun e W' ⟨he, hm⟩ => ?_
  subst he
  have bel := hm.below
  refine ⟨_, rfl, ds, [], p ++ [], [], p, [], hW', ?_, ?_, ?_, bel.frame _, fun h => by cases h⟩
  · rw [hfn ds hlen, hr]
    exact trodAll_mk1 (shut_bool hb _)
  · rw [hfn ds hlen]
    exact trodAll_below hl bel hp hA
  · rw [hvars, hfn ds hlen]
    rfl
end Go.Eng
/- The engine: more facts on one operation. No program is in sight. -/
namespace Go.Eng
open Go Go.RowKit

section
variable {P : Program} {r : Regs} {W : World} {chg news : Blks}
variable {ty : TypeId} {pos : String} {after : Array Edge} {dst : Option Tmp} {gd : Option (Nat × Bool)}
def boolB (P : Program) (T : TypeId) : Bool := match P.underlying T with | some .bool => !P.eqGuardType P.depth T | _ => false
theorem boolB_und {T : TypeId} (h : boolB P T = true) : P.underlying T = some .bool ∧ P.eqGuardType P.depth T = false := by
  unfold boolB at h
  split at h
  · rename_i hu; exact ⟨hu, by simpa using h⟩
  · cases h
theorem Val.eql_bool {x y : Operand} {T yt : TypeId} {a b : Bool} (hx : rev r x = some (.bool a)) (hy : rev r y = some (.bool b)) (h : boolB P T = true) :
    Val P r W chg news { dst, op := .binOp .eql T x y yt, type := ty, pos, after, guard := gd } (.bool (a == b)) :=
  ⟨fun ac w ha _ => by
    obtain ⟨hu, hg⟩ := boolB_und h
    have h1 : (Op.equal T (.bool a) (.bool b)).run P w = .ok (a == b) w := by
      show (Op.equalIn (9999 + 1) T (.bool a) (.bool b)).run P w = _
      rw [Op.equalIn]
      simp [run_underlying hu]
    simp [execOp, ha.eval hx, ha.eval hy, eqGuard, hg, binOp, h1]⟩
theorem Val.neq_bool {x y : Operand} {T yt : TypeId} {a b : Bool} (hx : rev r x = some (.bool a)) (hy : rev r y = some (.bool b)) (h : boolB P T = true) :
    Val P r W chg news { dst, op := .binOp .neq T x y yt, type := ty, pos, after, guard := gd } (.bool (!(a == b))) :=
  ⟨fun ac w ha _ => by
    obtain ⟨hu, hg⟩ := boolB_und h
    have h1 : (Op.equal T (.bool a) (.bool b)).run P w = .ok (a == b) w := by
      show (Op.equalIn (9999 + 1) T (.bool a) (.bool b)).run P w = _
      rw [Op.equalIn]
      simp [run_underlying hu]
    simp [execOp, ha.eval hx, ha.eval hy, eqGuard, hg, binOp, h1]⟩
end
end Go.Eng
/- The engine: slices that the function makes by append. No program is in sight. -/
namespace Go.Eng
open Go Go.RowKit

/-- A slice of the function's own: none, or its block, its capacity, and the cells behind its elements. -/
abbrev Own := Option (Nat × Nat × List Value)
def ownV (x : Own) (n : Nat) : Value := match x with
  | none => .slice none 0 0
  | some (b, c, _) => .slice (some ⟨b, 0, none⟩) n c
def ownB (e : TypeId) (x : Own) (xs : List Value) : Blks := match x with
  | none => []
  | some (b, _, r) => [(b, .cells (xs ++ r).toArray e (0, 0))]
def ownRow (x : Own) : Option Nat := match x with
  | none => none
  | some (b, _, _) => some b
structure OwnOk (sz : Nat) (x : Own) (n : Nat) (xs : List Value) : Prop where
  len : xs.length = n * sz
  nil : x = none → n = 0
  cap : ∀ b c r, x = some (b, c, r) → n ≤ c ∧ c ≤ maxLen ∧ (xs ++ r).length = c * sz
theorem OwnOk.start {sz : Nat} : OwnOk sz none 0 [] := ⟨by simp, fun _ => rfl, fun _ _ _ h => by cases h⟩
theorem OwnOk.has {sz : Nat} {x : Own} {n : Nat} {xs : List Value} (h : OwnOk sz x n xs) (hn : 0 < n) : ∃ b c r, x = some (b, c, r) ∧ n ≤ c ∧ c ≤ maxLen ∧ (xs ++ r).length = c * sz := by
  match x, h with
  | .none, h => have := h.nil rfl; omega
  | .some (b, c, r), h => exact ⟨b, c, r, rfl, h.cap b c r rfl⟩
theorem OwnOk.owns {sz : Nat} {x : Own} {n : Nat} {xs : List Value} {e : TypeId} {w : World} {base : Nat} (h : OwnOk sz x n xs) (hm : ∀ b o, (b, o) ∈ ownB e x xs → base ≤ b ∧ w.heap[b]? = some o) : w.ownsRow base e sz (ownV x n) n xs := by
  match x, h with
  | .none, h => exact ⟨h.len, .inl ⟨rfl, h.nil rfl⟩⟩
  | .some (b, c, r), h =>
    obtain ⟨h1, h2⟩ := hm b (.cells (xs ++ r).toArray e (0, 0)) (by simp [ownB])
    obtain ⟨c1, c2, c3⟩ := h.cap b c r rfl
    exact ⟨h.len, .inr ⟨b, c, _, rfl, h1, h2, c1, c2, by simpa using c3, by simp [← h.len]⟩⟩

/-- One block among the new ones is another, or lies elsewhere. -/
theorem Mem.swap {W w w' : World} {chg A B : Blks} {e : TypeId} {x y : Own} {xs ys : List Value} (h : Mem W chg (A ++ (ownB e x xs ++ B)) w) (hg : w.grownBy w' (ownRow x))
    (hy : ∀ b c r, y = some (b, c, r) → ((∃ c' r', x = some (b, c', r')) ∨ w.heap.size ≤ b) ∧ w'.heap[b]? = some (.cells (ys ++ r).toArray e (0, 0))) : Mem W chg (A ++ (ownB e y ys ++ B)) w' := by
  have hrow : ∀ k, (ownRow x) = some k → W.heap.size ≤ k ∧ (∀ o, (k, o) ∉ chg) ∧ (∀ o, (k, o) ∉ A) ∧ (∀ o, (k, o) ∉ B) := by
    intro k hk
    match x, hk with
    | .some (b, c, r), hk =>
      obtain rfl : b = k := Option.some.inj hk
      have h1 := h.once
      refine ⟨(h.newd b (.cells (xs ++ r).toArray e (0, 0)) (by simp [ownB])).1, fun o ho => ?_, fun o ho => ?_, fun o ho => ?_⟩
      all_goals
        simp only [ownB, List.map_append, List.map_cons, List.map_nil, List.nodup_append, List.mem_append, List.mem_map, List.mem_cons, List.not_mem_nil, or_false] at h1
      · exact h1.2.2 b ⟨_, ho, rfl⟩ b (.inr (.inl rfl)) rfl
      · exact h1.2.1.2.2 b ⟨_, ho, rfl⟩ b (.inl rfl) rfl
      · exact h1.2.1.2.1.2.2 b rfl b ⟨_, ho, rfl⟩ rfl
  have keep : ∀ k o, w.heap[k]? = some o → (ownRow x) ≠ some k → w'.heap[k]? = some o := fun k o hk hne => by rw [hg.block k (lt_of_block hk) (fun e => hne e.symm)]; exact hk
  refine ⟨hg.os.trans h.os, hg.tape.trans h.tape, hg.output.trans h.output, Nat.le_trans h.size hg.size, fun k hk hc => ?_, fun b o hb => ?_, fun b o hb => ?_, ?_⟩
  · rw [hg.block k (by have := h.size; omega) (fun e => by have := (hrow k e.symm).1; omega)]
    exact h.old k hk hc
  · have h1 := h.chgd b o hb
    exact ⟨h1.1, keep b o h1.2 (fun e => (hrow b e).2.1 o hb)⟩
  · rcases List.mem_append.1 hb with ha | hb
    · have h1 := h.newd b o (List.mem_append_left _ ha)
      exact ⟨h1.1, keep b o h1.2 (fun e => (hrow b e).2.2.1 o ha)⟩
    · rcases List.mem_append.1 hb with ho | hB
      · match y, ho with
        | .some (b', c', r'), ho =>
          simp only [ownB, List.mem_cons, List.not_mem_nil, or_false, Prod.mk.injEq] at ho
          obtain ⟨rfl, rfl⟩ := ho
          obtain ⟨h1, h2⟩ := hy b c' r' rfl
          refine ⟨?_, h2⟩
          rcases h1 with ⟨c, r, rfl⟩ | h1
          · exact (hrow b rfl).1
          · have := h.size; omega
      · have h1 := h.newd b o (List.mem_append_right _ (List.mem_append_right _ hB))
        exact ⟨h1.1, keep b o h1.2 (fun e => (hrow b e).2.2.2 o hB)⟩
  · have h1 := h.once
    have hlt : ∀ b o, (b, o) ∈ chg ++ (A ++ (ownB e x xs ++ B)) → b < w.heap.size := fun b o hb => h.lt_new hb
    match y with
    | .none =>
      refine h1.sublist ?_
      simp only [ownB, List.nil_append]
      exact ((List.Sublist.refl _).append ((List.Sublist.refl _).append (List.sublist_append_right _ _))).map _
    | .some (b', c', r') =>
      obtain ⟨h2, _⟩ := hy b' c' r' rfl
      have hne : (∀ o, (b', o) ∉ chg) ∧ (∀ o, (b', o) ∉ A) ∧ (∀ o, (b', o) ∉ B) := by
        rcases h2 with ⟨c, r, rfl⟩ | h2
        · exact (hrow b' rfl).2
        · refine ⟨fun o ho => ?_, fun o ho => ?_, fun o ho => ?_⟩
          · have := hlt b' o (List.mem_append_left _ ho); omega
          · have := hlt b' o (List.mem_append_right _ (List.mem_append_left _ ho)); omega
          · have := hlt b' o (List.mem_append_right _ (List.mem_append_right _ (List.mem_append_right _ ho))); omega
      have h3 : ((chg ++ (A ++ B)).map (·.1)).Nodup := h1.sublist (((List.Sublist.refl _).append ((List.Sublist.refl _).append (List.sublist_append_right _ _))).map _)
      simp only [ownB, List.map_append, List.map_cons, List.map_nil, List.nodup_append, List.mem_append, List.mem_map, List.mem_cons, List.not_mem_nil, or_false, List.nodup_cons, List.nodup_nil, not_false_eq_true, and_true, true_and] at h3 ⊢
      obtain ⟨a1, ⟨a2, a3, a4⟩, a5⟩ := h3
      refine ⟨a1, ⟨a2, ⟨a3, ?_⟩, ?_⟩, ?_⟩
      · rintro _ rfl z ⟨⟨k, o⟩, hk, rfl⟩ he
        exact hne.2.2 o (by rw [he]; exact hk)
      · rintro u ⟨⟨k, o⟩, hk, rfl⟩ z (rfl | hz) he
        · exact hne.2.1 o (by rw [← he]; exact hk)
        · exact a4 _ ⟨_, hk, rfl⟩ z hz he
      · rintro u ⟨⟨k, o⟩, hk, rfl⟩ z (hz | rfl | hz) he
        · exact a5 _ ⟨_, hk, rfl⟩ z (.inl hz) he
        · exact hne.1 o (by rw [← he]; exact hk)
        · exact a5 _ ⟨_, hk, rfl⟩ z (.inr hz) he

section
variable {P : Program} {ops : Array Oper} {Q : Exit → Act → World → Prop} {n : Nat} {r : Regs} {ds : List Deferred} {W : World} {chg news : Blks} {rest : List Oper}
variable {d : Nat} {ty : TypeId} {pos : String} {after : Array Edge} {dst : Option Tmp} {gd : Option (Nat × Bool)}

/-- What append asks of the tables: the element's type, its cells, its bytes. -/
def apB (P : Program) (T : TypeId) : Option (TypeId × Nat × Nat) :=
  match P.underlying T with
  | some (.slice e) => match P.info? e with
    | some i => match i.zero with
      | some z => if z.cells.size = i.size ∧ 0 < i.size then some (e, i.size, i.bytes) else none
      | none => none
    | none => none
  | _ => none
theorem apB_spec {T e : TypeId} {sz by_ : Nat} (h : apB P T = some (e, sz, by_)) : P.underlying T = some (.slice e) ∧ ∃ i z, P.info? e = some i ∧ i.zero = some z ∧ i.size = sz ∧ i.bytes = by_ ∧ z.cells.size = sz ∧ 0 < sz := by
  unfold apB at h
  split at h
  · rename_i e' hu
    split at h
    · rename_i i hi
      split at h
      · rename_i z hz
        split at h
        · rename_i hc
          cases h
          exact ⟨hu, i, z, hi, hz, rfl, rfl, hc.1, hc.2⟩
        · cases h
      · cases h
    · cases h
  · cases h
/-- What an append comes to. -/
theorem append_run {T e : TypeId} {sz by_ tt : Nat} (hT : apB P T = some (e, sz, by_)) {A B : Blks} {x : Own} {k m c : Nat} {q : Option Addr} {xs ys : List Value} {w : World} (hm : Mem W chg (A ++ (ownB e x xs ++ B)) w) (hx : OwnOk sz x k xs)
    (hy : ys.length = m * sz) (hq : q = none → m = 0 ∧ c = 0) (hc : ∀ j u, ys[j]? = some u → ∃ ad, q = some ad ∧ w.cell? (ad.add j) = some u) (h1 : ∀ u ∈ ys, u.oneCell' = true) (b1 : k + m ≤ maxLen) (b2 : (k + m) * by_ ≤ 140737488355328) :
    ∃ y w', (Builtin.append_ #[T, T] tt #[ownV x k, .slice q m c]).run P w = .ok (ownV y (k + m)) w' ∧ OwnOk sz y (k + m) (xs ++ ys) ∧ Mem W chg (A ++ (ownB e y (xs ++ ys) ++ B)) w' := by
  obtain ⟨hu, i, z, hi, hz, rfl, rfl, hzs, hsz⟩ := apB_spec hT
  have hown : w.ownsRow W.heap.size e i.size (ownV x k) k xs := hx.owns (fun b o hb => hm.newd b o (List.mem_append_right _ (List.mem_append_left _ hb)))
  have hlen : (xs ++ ys).length = (k + m) * i.size := by rw [List.length_append, hx.len, hy, Nat.add_mul]
  cases q with
  | none =>
    obtain ⟨rfl, rfl⟩ := hq rfl
    obtain rfl : ys = [] := List.eq_nil_of_length_eq_zero (by simpa using hy)
    refine ⟨x, w, ?_, ?_, ?_⟩
    · exact run_append_owned_none (P := P) w W.heap.size T tt e i i.size hu hi _ k xs hown
    · simpa using hx
    · simpa using hm
  | some ad =>
    have hc' : ∀ j u, ys[j]? = some u → w.cell? (ad.add j) = some u := fun j u h => by obtain ⟨ad', h2, h3⟩ := hc j u h; cases h2; exact h3
    match x, hx, hm, hown with
    | .none, hx, hm, hown =>
      have hk := hx.nil rfl
      subst hk
      obtain rfl : xs = [] := List.eq_nil_of_length_eq_zero (by simpa using hx.len)
      obtain ⟨v', w', hrun, ho, hg, hiff⟩ := run_append_own (P := P) w w.heap.size T tt e i z i.size i.bytes hu hi hz rfl rfl hzs hsz (.slice none 0 0) 0 [] (World.ownsRow_nil w _ e i.size) ad m c ys hy hc' h1 b1 b2 (Nat.le_refl _)
      rcases ho.2 with ⟨rfl, h0⟩ | ⟨g, cap, cur, rfl, hge, hgb, hnc, hcm, hcs, htk⟩
      · refine ⟨none, w', hrun, ⟨hlen, fun _ => h0, fun _ _ _ h => by cases h⟩, ?_⟩
        exact hm.swap hg (fun b c r h => by cases h)
      · refine ⟨.some (g, cap, cur.toList.drop ((0 + m) * i.size)), w', hrun, ⟨hlen, fun h => (by cases h), fun b c r h => ?_⟩, ?_⟩
        · cases h
          refine ⟨hnc, hcm, ?_⟩
          rw [← htk, List.take_append_drop]; simpa using hcs
        · refine hm.swap hg (fun b c r h => ?_)
          cases h
          refine ⟨.inr hge, ?_⟩
          rw [← htk, List.take_append_drop]; simpa using hgb
    | .some (b, cap, r), hx, hm, hown =>
      obtain ⟨c1, c2, c3⟩ := hx.cap b cap r rfl
      have hbb := (hm.newd b (.cells (xs ++ r).toArray e (0, 0)) (List.mem_append_right _ (List.mem_append_left _ (by simp [ownB])))).2
      by_cases hfit : k + m ≤ cap
      · obtain ⟨w', hrun, ho, hg⟩ := run_append_fits (P := P) w W.heap.size T tt e i i.size hu hi rfl b k cap xs hown ad m c ys hy hc' h1 hfit
        rcases ho.2 with ⟨h0, _⟩ | ⟨g, cap', cur, hv, hge, hgb, hnc, hcm, hcs, htk⟩
        · cases h0
        · cases hv
          refine ⟨.some (b, cap, cur.toList.drop ((k + m) * i.size)), w', hrun, ⟨hlen, fun h => (by cases h), fun b c r h => ?_⟩, ?_⟩
          · cases h
            refine ⟨hnc, hcm, ?_⟩
            rw [← htk, List.take_append_drop]; simpa using hcs
          · refine hm.swap hg (fun b c r h => ?_)
            cases h
            refine ⟨.inl ⟨_, _, rfl⟩, ?_⟩
            rw [← htk, List.take_append_drop]; simpa using hgb
      · have holds : ∀ j u, xs[j]? = some u → w.cell? ((⟨b, 0, none⟩ : Addr).add j) = some u := fun j u hj => by
          have hj' := (List.getElem?_eq_some_iff.1 hj).1
          rw [add_plain, cell_of_cells hbb]
          simp [List.getElem?_append_left hj', hj]
        obtain ⟨v', w', hrun, ho, hg⟩ := run_append_arg_grows (P := P) w T tt e i z i.size i.bytes hu hi hz rfl rfl hzs hsz ⟨b, 0, none⟩ k cap xs hx.len holds ad m c ys hy hc' (by omega) b1 b2
        have hg' : w.grownBy w' (some b) := ⟨hg.os, hg.tape, hg.output, hg.size, fun k hk _ => hg.block k hk (by simp)⟩
        rcases ho.2 with ⟨rfl, h0⟩ | ⟨g, cap', cur, rfl, hge, hgb, hnc, hcm, hcs, htk⟩
        · refine ⟨none, w', hrun, ⟨hlen, fun _ => h0, fun _ _ _ h => by cases h⟩, ?_⟩
          exact hm.swap hg' (fun b c r h => by cases h)
        · refine ⟨.some (g, cap', cur.toList.drop ((k + m) * i.size)), w', hrun, ⟨hlen, fun h => (by cases h), fun b c r h => ?_⟩, ?_⟩
          · cases h
            refine ⟨hnc, hcm, ?_⟩
            rw [← htk, List.take_append_drop]; simpa using hcs
          · refine hm.swap hg' (fun b c r h => ?_)
            cases h
            refine ⟨.inr hge, ?_⟩
            rw [← htk, List.take_append_drop]; simpa using hgb

/-- Append onto a slice of the function's own. -/
theorem RunL.append {s y : Operand} {T e : TypeId} {sz by_ : Nat} (A B : Blks) (x : Own) {k m c : Nat} {q : Option Addr} {xs : List Value} (ys : List Value) (hT : apB P T = some (e, sz, by_)) (hn : news = A ++ (ownB e x xs ++ B))
    (hs : rev r s = some (ownV x k)) (hy : rev r y = some (.slice q m c)) (hx : OwnOk sz x k xs) (hl : ys.length = m * sz) (hq : q = none → m = 0 ∧ c = 0)
    (hc : ∀ w, Mem W chg news w → ∀ j u, ys[j]? = some u → ∃ ad, q = some ad ∧ w.cell? (ad.add j) = some u) (h1 : ∀ u ∈ ys, u.oneCell' = true) (b1 : k + m ≤ maxLen) (b2 : (k + m) * by_ ≤ 140737488355328) (hd : Nat.ble (d + 1) n = true)
    (h : ∀ z, OwnOk sz z (k + m) (xs ++ ys) → RunL P ops Q n rest ((d, ownV z (k + m)) :: r) ds W chg (A ++ (ownB e z (xs ++ ys) ++ B))) :
    RunL P ops Q n ({ dst := some d, op := .call { callee := .builtin .append, args := #[s, y], argTypes := #[T, T] }, type := ty, pos, after, guard := none } :: rest) r ds W chg news := fun a w st =>
  wpList_plain rfl fun K hK => by
    have hm := st.mem
    rw [hn] at hm
    obtain ⟨z, w', hrun, ho, hm'⟩ := append_run (P := P) (tt := ty) hT hm hx hl hq (hc w st.mem) h1 b1 b2
    unfold Oper.wp
    simp [execOp, resolve, invoke, builtin, st.agree.eval hs, st.agree.eval hy, hrun, Result.andThen]
    refine hK _ _ (h z ho _ _ ?_)
    have st2 := st.put (Nat.le_of_ble_eq_true hd) (ownV z (k + m))
    exact ⟨st2.size, st2.agree, st2.defers, hm'⟩
theorem New.buildSlice0 {T e : TypeId} {sz : Nat} (hT : slB P T = some (e, sz)) :
    New P r W chg news { dst, op := .buildSlice T 0 #[], type := ty, pos, after, guard := gd } (fun b => .slice (some ⟨b, 0, none⟩) 0 0) (.cells [].toArray e (0, 0)) :=
  ⟨fun a w ha _ => by
    unfold slB at hT
    split at hT
    · rename_i e' hu
      cases hj : P.info? e' with
      | none => simp [hj] at hT
      | some j =>
        simp only [hj, Option.map_some, Option.some.injEq, Prod.mk.injEq] at hT
        obtain ⟨rfl, rfl⟩ := hT
        have hrun : (Instr.buildSlice T 0 #[]).run P w = .ok (.slice (some ⟨w.heap.size, 0, none⟩) 0 0) (w.alloc (.cells #[] e')) := by
          unfold Instr.buildSlice
          simp [run_underlying hu, sizeOf, typeInfo, hj, newRow, newObj, Sem.run, Instr.fill, show Array.range 0 = #[] from by simp [Array.range]]
        simp [execOp, hrun]
    · cases hT⟩

theorem Pick.skip {x : Nat × Obj} {l l' : Blks} (h : Pick l l') : Pick l (x :: l') := by
  have key : ∀ {a b : Blks}, Pick a b → ∀ y, Pick a (y :: b) := by
    intro a b hp
    induction hp with
    | nil => intro y; exact .nil
    | cons ht he hr ih => intro y; exact .cons (.there ht) he (ih y)
  exact key h x

/-- What a round of a loop that counts, and whose states bear something more, must come to. -/
def RoundX {X : Type} (n : Nat) (ds : List Deferred) (W : World) (chg : Nat → X → Blks) (N : Nat) (Inv : Nat → X → Prop) (R : Nat → X → Regs) (Nw : Nat → X → Blks) (k : Nat) (a : Act) (w : World) : Prop :=
  ∃ k' x', k < k' ∧ k' ≤ N ∧ Inv k' x' ∧ St n (R k' x') ds W (chg k' x') (Nw k' x') a w
theorem RunC.loopX {X : Type} {body : Code} {q : Regs} (n0 : Blks) (N : Nat) (R : Nat → X → Regs → Regs) (C V T : Nat → X → Blks) (Inv : Nat → X → Prop) (x0 : X) (h0 : Inv 0 x0) (hc : chg = C 0 x0) (hs : Sub (R 0 x0 q) r) (hn : Pick (V 0 x0 ++ (n0 ++ T 0 x0)) news)
    (hb : ∀ k x, k ≤ N → Inv k x → RunC P (Exit.then (RoundX n ds W C N Inv (fun k x => R k x q) (fun k x => V k x ++ (n0 ++ T k x)) k) Q) n body (R k x q) ds W (C k x) (V k x ++ (n0 ++ T k x))) : RunC P Q n (.loop body) r ds W chg news := by
  have key : ∀ (m k : Nat) (x : X), N - k < m → k ≤ N → Inv k x → ∀ a w, St n (R k x q) ds W (C k x) (V k x ++ (n0 ++ T k x)) a w → Code.rounds P body Q m a w := by
    intro m
    induction m with
    | zero => intro k x h; omega
    | succ m ih =>
      intro k x hk hN hi a w s
      rw [rounds_succ]
      refine wp_mono (hb k x hN hi a w s) ?_
      rintro e a2 w2 hq
      cases e with
      | normal =>
        obtain ⟨k', x', h1, h2, h3, s2⟩ := hq
        exact ih k' x' (by omega) h2 h3 a2 w2 s2
      | exit id => exact hq
      | goto l => exact hq
      | ret => exact hq
      | panic c => exact hq
      | outgrown => exact hq
  intro a w s
  subst hc
  exact wp_loop_rounds _ (key _ 0 x0 (Nat.lt_succ_self _) (Nat.zero_le _) h0 a w (s.pick hs hn))
theorem RunE.roundX {X : Type} {C : Nat → X → Blks} {N : Nat} {Inv : Nat → X → Prop} {R : Nat → X → Regs} {Nw : Nat → X → Blks} {k : Nat} (x : X) (hN : k + 1 ≤ N) (hi : Inv (k + 1) x) (hc : chg = C (k + 1) x) (hs : Sub (R (k + 1) x) r) (hn : Pick (Nw (k + 1) x) news) :
    RunE (Exit.then (RoundX n ds W C N Inv R Nw k) Q) n .normal r ds W chg news := fun _ _ s => ⟨k + 1, x, Nat.lt_succ_self _, hN, hi, by subst hc; exact s.pick hs hn⟩

/-- Rows in a block, and cells behind them. -/
theorem Sl.rowsR {w : World} {b : Nat} {T : TypeId} {fr : Nat × Nat} {sz : Nat} {xs : List (List Value)} {t : List Value} (h : w.heap[b]? = some (.cells (xs.flatten ++ t).toArray T fr)) (hl : ∀ x ∈ xs, x.length = sz) : Sl w (some ⟨b, 0, none⟩) b 0 sz xs :=
  ⟨fun _ => rfl, hl, fun i hi j hj => by
    have h2 := flat_get xs i hi j hl hj
    have h3 : i * sz + j < xs.flatten.length := by
      have h4 : xs[i].length = sz := hl _ (List.getElem_mem hi)
      rw [List.getElem?_eq_getElem (show j < xs[i].length by omega)] at h2
      exact (List.getElem?_eq_some_iff.1 h2).1
    rw [cell_of_cells h, ← h2]
    simp [List.getElem?_append_left h3]⟩
/-- The cells of a slice, one after the other. -/
theorem Sl.flat {w : World} {p : Option Addr} {b o sz : Nat} {xs : List (List Value)} (h : Sl w p b o sz xs) (hz : 0 < sz) : ∀ j u, xs.flatten[j]? = some u → ∃ ad, p = some ad ∧ w.cell? (ad.add j) = some u := by
  intro j u hj
  have hfl : xs.flatten.length = xs.length * sz := by
    have : ∀ l : List (List Value), (∀ x ∈ l, x.length = sz) → l.flatten.length = l.length * sz := by
      intro l
      induction l with
      | nil => intro _; simp
      | cons y l ih => intro hy; simp only [List.flatten_cons, List.length_append, List.length_cons, hy y (by simp), ih (fun z hz => hy z (by simp [hz])), Nat.add_mul]; omega
    exact this xs h.len
  have hjl := (List.getElem?_eq_some_iff.1 hj).1
  have hi : j / sz < xs.length := by rw [Nat.div_lt_iff_lt_mul hz]; omega
  have hr : j % sz < sz := Nat.mod_lt _ hz
  have he : j / sz * sz + j % sz = j := by rw [Nat.mul_comm]; exact Nat.div_add_mod j sz
  have h1 := flat_get xs (j / sz) hi (j % sz) h.len hr
  rw [he, hj] at h1
  refine ⟨_, h.ptr hi, ?_⟩
  have h2 := h.cell (j / sz) hi (j % sz) hr
  rw [Nat.add_assoc, he] at h2
  rw [add_plain, h2, h1]
theorem OwnOk.empty {sz b : Nat} : OwnOk sz (some (b, 0, [])) 0 [] := ⟨by simp, fun _ => rfl, fun _ _ _ h => by cases h; simp [maxLen]⟩
theorem src_blk {w : World} {b : Nat} {T : TypeId} {fr : Nat × Nat} {ys : List Value} (h : w.heap[b]? = some (.cells ys.toArray T fr)) : ∀ j u, ys[j]? = some u → ∃ ad, (some ⟨b, 0, none⟩ : Option Addr) = some ad ∧ w.cell? (ad.add j) = some u := fun j u hj =>
  ⟨_, rfl, by rw [add_plain, cell_of_cells h]; simpa using hj⟩
theorem one_of {ys : List Value} (h : ys.all (·.oneCell') = true) : ∀ u ∈ ys, u.oneCell' = true := fun u hu => List.all_eq_true.1 h u hu
theorem one_flat {α : Type} {f : α → List Value} (hf : ∀ a, (f a).all (·.oneCell') = true) (l : List α) : ∀ u ∈ (l.map f).flatten, u.oneCell' = true := fun u hu => by
  obtain ⟨x, hx, hu⟩ := List.mem_flatten.1 hu
  obtain ⟨a, _, rfl⟩ := List.mem_map.1 hx
  exact one_of (hf a) u hu
theorem flat_len {α : Type} {f : α → List Value} {sz : Nat} (hf : ∀ a, (f a).length = sz) : ∀ l : List α, (l.map f).flatten.length = l.length * sz
  | [] => by simp
  | a :: l => by simp only [List.map_cons, List.flatten_cons, List.length_append, List.length_cons, hf a, flat_len hf l, Nat.add_mul]; omega
theorem pasteN_app {t : List Value} : ∀ {cs vs cs' : List Value}, pasteN cs vs = some cs' → pasteN (cs ++ t) vs = some (cs' ++ t)
  | cs, [], cs', h => by cases cs <;> simp [pasteN] at h <;> subst h <;> cases t <;> simp [pasteN]
  | [], _ :: _, _, h => by simp [pasteN] at h
  | c :: cs, v :: vs, cs', h => by
    simp only [pasteN] at h
    split at h
    · rename_i h1
      split at h
      · rename_i l hl
        cases h
        simp only [List.cons_append, pasteN, h1, pasteN_app (t := t) hl]
      · cases h
    · cases h
theorem paste_app {t : List Value} : ∀ {o : Nat} {cs vs cs' : List Value}, paste cs o vs = some cs' → paste (cs ++ t) o vs = some (cs' ++ t)
  | 0, cs, vs, cs', h => by
    have h' : pasteN cs vs = some cs' := by cases cs <;> simpa [paste] using h
    have := pasteN_app (t := t) h'
    cases hc : cs ++ t <;> rw [hc] at this <;> simpa [paste] using this
  | o + 1, [], vs, cs', h => by simp [paste] at h
  | o + 1, c :: cs, vs, cs', h => by
    simp only [paste] at h
    split at h
    · rename_i l hl
      cases h
      simp only [List.cons_append, paste, paste_app (t := t) hl]
    · cases h
theorem paste_pre {x : List Value} {o : Nat} {cs vs cs' : List Value} (h : paste cs o vs = some cs') : paste (x ++ cs) (x.length + o) vs = some (x ++ cs') := by
  induction x with
  | nil => simpa using h
  | cons c x ih =>
    rw [List.cons_append, List.length_cons, show x.length + 1 + o = (x.length + o) + 1 by omega]
    simp only [paste, ih, List.cons_append]
/-- A store into one row of some. -/
theorem paste_row {α : Type} {f : α → List Value} {sz : Nat} (hf : ∀ a, (f a).length = sz) {a' : α} {j : Nat} {vs t : List Value} : ∀ {l : List α} {i : Nat} (hi : i < l.length), paste (f l[i]) j vs = some (f a') → paste ((l.map f).flatten ++ t) (i * sz + j) vs = some (((l.set i a').map f).flatten ++ t)
  | [], i, hi, _ => by simp at hi
  | a :: l, 0, _, h => by
    simp only [List.map_cons, List.flatten_cons, Nat.zero_mul, Nat.zero_add, List.set_cons_zero, List.append_assoc]
    exact paste_app (by simpa using h)
  | a :: l, i + 1, hi, h => by
    have ih := paste_row (l := l) hf (t := t) (show i < l.length by simpa using hi) (by simpa using h)
    simp only [List.map_cons, List.flatten_cons, List.set_cons_succ, List.append_assoc]
    have h2 := paste_pre (x := f a) ih
    rw [hf a, show sz + (i * sz + j) = (i + 1) * sz + j by rw [Nat.add_mul]; omega] at h2
    exact h2
theorem Pick.same {l l' : Blks} (h : l = l') : Pick l l' := h ▸ Pick.refl l
theorem RunI.append {i : Nat} {K : Act → World → Prop} {s y : Operand} {T e : TypeId} {sz by_ : Nat} (A B : Blks) (x : Own) {k m c : Nat} {q : Option Addr} {xs : List Value} (ys : List Value)
    (ho : ops[i]? = some { dst := some d, op := .call { callee := .builtin .append, args := #[s, y], argTypes := #[T, T] }, type := ty, pos, after, guard := none }) (hT : apB P T = some (e, sz, by_)) (hn : news = A ++ (ownB e x xs ++ B))
    (hs : rev r s = some (ownV x k)) (hy : rev r y = some (.slice q m c)) (hx : OwnOk sz x k xs) (hl : ys.length = m * sz) (hq : q = none → m = 0 ∧ c = 0)
    (hc : ∀ w, Mem W chg news w → ∀ j u, ys[j]? = some u → ∃ ad, q = some ad ∧ w.cell? (ad.add j) = some u) (h1 : ∀ u ∈ ys, u.oneCell' = true) (b1 : k + m ≤ maxLen) (b2 : (k + m) * by_ ≤ 140737488355328) (hd : Nat.ble (d + 1) n = true)
    (h : ∀ z, OwnOk sz z (k + m) (xs ++ ys) → RunK n K ((d, ownV z (k + m)) :: r) ds W chg (A ++ (ownB e z (xs ++ ys) ++ B))) : RunI P ops Q n i K r ds W chg news := fun a w st => by
  have hm := st.mem
  rw [hn] at hm
  obtain ⟨z, w', hrun, hz, hm'⟩ := append_run (P := P) (tt := ty) hT hm hx hl hq (hc w st.mem) h1 b1 b2
  have st2 := st.put (Nat.le_of_ble_eq_true hd) (ownV z (k + m))
  have hK := h z hz _ w' ⟨st2.size, st2.agree, st2.defers, hm'⟩
  unfold wpOp
  simp only [ho]
  refine .inl ?_
  unfold Oper.wp
  simp [execOp, resolve, invoke, builtin, st.agree.eval hs, st.agree.eval hy, hrun, Result.andThen]
  exact hK
theorem RunI.keep {i : Nat} {K : Act → World → Prop} {q : Regs} {news' : Blks} (hs : Sub q r) (hn : Pick news' news) (h : RunI P ops Q n i K q ds W chg news') : RunI P ops Q n i K r ds W chg news := fun a w s => h a w (s.pick hs hn)
/-! ### A slice of the function's own, handed on -/
def ownQ (x : Own) : Option Addr := x.map fun y => ⟨y.1, 0, none⟩
def ownC (x : Own) : Nat := match x with | none => 0 | some y => y.2.1
def ownK (x : Own) : Nat := match x with | none => 0 | some y => y.1
theorem ownV_slice {sz : Nat} {x : Own} {k : Nat} {xs : List Value} (h : OwnOk sz x k xs) : ownV x k = .slice (ownQ x) k (ownC x) := by
  match x, h with
  | none, h => rw [h.nil rfl]; rfl
  | some _, _ => rfl
theorem own_sl {α : Type} {f : α → List Value} {sz : Nat} (hf : ∀ a, (f a).length = sz) (hz : 0 < sz) {x : Own} {k : Nat} {l : List α} {e : TypeId} {w : World} (h : OwnOk sz x k (l.map f).flatten) (hm : ∀ b o, (b, o) ∈ ownB e x (l.map f).flatten → w.heap[b]? = some o) :
    Sl w (ownQ x) (ownK x) 0 sz (l.map f) := by
  match x, h, hm with
  | none, h, _ =>
    have h1 := h.nil rfl
    have h2 := h.len
    rw [h1, flat_len hf, Nat.zero_mul] at h2
    have h3 : l = [] := by
      cases l with
      | nil => rfl
      | cons a l => simp only [List.length_cons, Nat.add_mul] at h2; omega
    subst h3
    exact Sl.emp
  | some (b, c, r), _, hm => exact Sl.rowsR (hm b _ (List.mem_singleton.2 rfl)) (fun x hx => by obtain ⟨a, _, rfl⟩ := List.mem_map.1 hx; exact hf a)
theorem flat_snoc {α : Type} {f : α → List Value} (l : List α) (a : α) : (l.map f).flatten ++ f a = ((l ++ [a]).map f).flatten := by simp
end
end Go.Eng
/- The engine: more facts on one operation; ways that meet again behind a piece of code. No program is in sight. -/
namespace Go.Eng
open Go Go.RowKit

section
variable {P : Program} {r : Regs} {W : World} {chg news : Blks}
variable {ty : TypeId} {pos : String} {after : Array Edge} {dst : Option Tmp} {gd : Option (Nat × Bool)}
/-- All of a but what is b's. -/
def andN (a b : Nat) : Nat := a ^^^ (a &&& b)
theorem andN_bit (a b i : Nat) : (andN a b).testBit i = (a.testBit i && !b.testBit i) := by
  unfold andN
  rw [Nat.testBit_xor, Nat.testBit_and]
  cases a.testBit i <;> cases b.testBit i <;> rfl
theorem andN_le (a b : Nat) : andN a b ≤ a := by
  have : andN a b &&& a = andN a b := by
    apply Nat.eq_of_testBit_eq
    intro i
    rw [Nat.testBit_and, andN_bit]
    cases a.testBit i <;> cases b.testBit i <;> rfl
  rw [← this]
  exact Nat.and_le_right
theorem Val.andNot {x y : Operand} {T yt : TypeId} {k : IntKind} {a b : Nat} (hx : rev r x = some (.int k (a : Int))) (hy : rev r y = some (.int k (b : Int))) (ha' : a < 2 ^ k.bits) (hb' : b < 2 ^ k.bits) (hr : k.wrap ((andN a b : Nat) : Int) = ((andN a b : Nat) : Int)) :
    Val P r W chg news { dst, op := .binOp .andNot T x y yt, type := ty, pos, after, guard := gd } (.int k ((andN a b : Nat) : Int)) :=
  ⟨fun ac w ha _ => by
    have e : ((BitVec.ofInt k.bits (a : Int)) &&& ~~~(BitVec.ofInt k.bits (b : Int))).toNat = andN a b := by
      apply Nat.eq_of_testBit_eq
      intro i
      rw [andN_bit]
      simp only [BitVec.testBit_toNat, BitVec.getLsbD_and, BitVec.getLsbD_not, BitVec.ofInt_natCast, BitVec.getLsbD_ofNat]
      by_cases hi : i < k.bits
      · simp [hi]
      · have : a.testBit i = false := Nat.testBit_lt_two_pow (Nat.lt_of_lt_of_le ha' (Nat.pow_le_pow_right (by omega) (by omega)))
        simp [this]
    simp only [execOp, ha.eval hx, ha.eval hy, eqGuard, binOp, Op.intBits, e, hr]
    simp [hr]⟩
theorem Val.remN {x y : Operand} {T yt : TypeId} {k : IntKind} {a b : Nat} (hx : rev r x = some (.int k (a : Int))) (hy : rev r y = some (.int k (b : Int))) (hb : 0 < b) :
    Val P r W chg news { dst, op := .binOp .rem T x y yt, type := ty, pos, after, guard := gd } (.int k ((a % b : Nat) : Int)) := by
  have h := Val.rem (P := P) (W := W) (chg := chg) (news := news) (dst := dst) (ty := ty) (pos := pos) (after := after) (gd := gd) (T := T) (yt := yt) hx hy (Int.natCast_nonneg a) (by exact_mod_cast hb)
  rw [Int.natCast_emod]
  exact h
theorem Val.quoN {x y : Operand} {T yt : TypeId} {k : IntKind} {a b : Nat} (hx : rev r x = some (.int k (a : Int))) (hy : rev r y = some (.int k (b : Int))) (hb : 0 < b) (hr : k.wrap ((a / b : Nat) : Int) = ((a / b : Nat) : Int)) :
    Val P r W chg news { dst, op := .binOp .quo T x y yt, type := ty, pos, after, guard := gd } (.int k ((a / b : Nat) : Int)) := by
  rw [Int.natCast_ediv] at hr ⊢
  exact Val.quo (P := P) (W := W) (chg := chg) (news := news) (dst := dst) (ty := ty) (pos := pos) (after := after) (gd := gd) (T := T) (yt := yt) hx hy (Int.natCast_nonneg a) (by exact_mod_cast hb) hr
theorem Val.subN {x y : Operand} {T yt : TypeId} {k : IntKind} {a b : Nat} (c : Nat) (hx : rev r x = some (.int k (a : Int))) (hy : rev r y = some (.int k (b : Int))) (hc : c + b = a) (hr : k.wrap (c : Int) = (c : Int)) :
    Val P r W chg news { dst, op := .binOp .sub T x y yt, type := ty, pos, after, guard := gd } (.int k (c : Int)) := by
  have e : (a : Int) - (b : Int) = (c : Int) := by rw [← hc]; simp
  have h := Val.sub' (P := P) (W := W) (chg := chg) (news := news) (dst := dst) (ty := ty) (pos := pos) (after := after) (gd := gd) (T := T) (yt := yt) hx hy (by rw [e]; exact hr)
  rw [e] at h
  exact h
end

section
variable {P : Program} {ops : Array Oper} {Q : Exit → Act → World → Prop} {n : Nat} {r : Regs} {ds : List Deferred} {W : World} {chg news : Blks}
/-- Whichever way code goes, it comes to one of some states. -/
def MeetP {X : Type} (n : Nat) (ds : List Deferred) (W : World) (R : X → Regs) (C Nw : X → Blks) (Inv : X → Prop) (a : Act) (w : World) : Prop := ∃ x, Inv x ∧ St n (R x) ds W (C x) (Nw x) a w
theorem RunC.seqJ {X : Type} {c1 c2 : Code} {q : Regs} (n0 : Blks) (R : X → Regs → Regs) (C V T : X → Blks) (Inv : X → Prop) (_hs : Sub q r) (_hn : Pick n0 news)
    (h : RunC P (Exit.then (MeetP n ds W (fun x => R x q) C (fun x => V x ++ (n0 ++ T x)) Inv) Q) n c1 r ds W chg news)
    (h2 : ∀ x, Inv x → RunC P Q n c2 (R x q) ds W (C x) (V x ++ (n0 ++ T x))) : RunC P Q n (.seq c1 c2) r ds W chg news := fun a w s =>
  wp_seq (Code.wp_mono (fun e a' w' he => by
    cases e with
    | normal => obtain ⟨x, hi, sx⟩ := he; exact h2 x hi a' w' sx
    | exit id => exact he
    | goto l => exact he
    | ret => exact he
    | panic c => exact he
    | outgrown => exact he) (h a w s))
theorem RunE.meet {X : Type} {R : X → Regs} {C Nw : X → Blks} {Inv : X → Prop} (x : X) (hi : Inv x) (hc : chg = C x) (hs : Sub (R x) r) (hn : Pick (Nw x) news) : RunE (Exit.then (MeetP n ds W R C Nw Inv) Q) n .normal r ds W chg news := fun _ _ s =>
  ⟨x, hi, by subst hc; exact s.pick hs hn⟩
theorem Mem.perm {W w : World} {chg news news' : Blks} (h : Mem W chg news w) (hp : news.Perm news') : Mem W chg news' w :=
  { h with
    newd := fun b o hb => h.newd b o (hp.mem_iff.2 hb)
    once := by
      have h1 := h.once
      exact (List.Perm.nodup_iff ((hp.append_left chg).map _)).1 h1 }
/-- A call that makes blocks; they are told of last. -/
theorem RunL.callNT {rest : List Oper} {d : Nat} {β : Type} {o : Oper} {f : FuncId} {args : Array Value} {v : β → Value} {nw : β → Blks} (hi : IsCall P r o f args) (hg : guardB ops r o.guard = some true) (hd : o.dst = some d) (hn : Nat.ble (d + 1) n = true)
    (hc : ∀ w, Mem W chg news w → Calls P f args w (News v nw w)) (h : ∀ b, RunL P ops Q n rest ((d, v b) :: r) ds W chg (news ++ nw b)) : RunL P ops Q n (o :: rest) r ds W chg news :=
  RunL.call hg hd (fun a w s => hi.runs a w s.agree) hc (fun a w e w' s hR => by
    obtain ⟨b, rfl, hm⟩ := hR
    have s2 := s.put (Nat.le_of_ble_eq_true hn) (v b)
    exact h b _ _ ⟨s2.size, s2.agree, s2.defers, (s.mem.trans hm).perm List.perm_append_comm⟩)
/-- Part of one row of some. -/
theorem Sl.subX {α : Type} {f : α → List Value} {w : World} {T : TypeId} {p : Option Addr} {b o sz s2 : Nat} {l : List α} (h : Sl W p b o sz (l.map f)) (hz : 0 < sz) (hm : Mem W chg news w) (hc : ∀ ob, (b, ob) ∉ chg) (hT : tyB P T = some (true, s2)) {i : Nat} (hi : i < l.length) {x : α} (hx : l[i] = x) {j off : Nat} (hj : j + s2 ≤ sz) {vs : List Value} (hv : grab (f x) j s2 = some vs) (ho : off = o + i * sz + j) :
    (loadVar T ⟨b, off, none⟩).run P w = .ok (.agg vs.toArray) w := by
  subst hx ho
  have hi' : i < (l.map f).length := by simpa using hi
  obtain ⟨g1, g2⟩ := grab_spec hv
  refine run_loadVar_agg (by rw [g1]; exact hT) (fun m hmm => ?_)
  rw [add_plain, hm.cell (p := ⟨b, _, none⟩) (h.lt hz hi') hc]
  have h1 := h.cell i hi' (j + m) (by omega)
  rw [show o + i * sz + j + m = o + i * sz + (j + m) by omega, h1]
  have h2 := g2 m (by omega)
  rw [List.getElem?_eq_getElem hmm] at h2
  simpa using h2
theorem paste_rowE {α : Type} {f : α → List Value} {sz : Nat} (hf : ∀ a, (f a).length = sz) {a' : α} {j off : Nat} {vs t : List Value} {l : List α} {i : Nat} (hi : i < l.length) {a : α} (ha : l[i] = a) (ho : off = i * sz + j) (h : paste (f a) j vs = some (f a')) : paste ((l.map f).flatten ++ t) off vs = some (((l.set i a').map f).flatten ++ t) := by
  subst ho ha
  exact paste_row hf hi h
end
end Go.Eng
/- The engine: calls that turn a block, and hand back some value of which only something is known. No program is in sight. -/
namespace Go.Eng
open Go Go.RowKit

/-- It hands back one of some values; one block that lay there is another. -/
def TurnsX {β : Type} (b : Nat) (o : Obj) (v : β → Value) (I : β → Prop) (W : World) (e : Ending) (w : World) : Prop := ∃ x, I x ∧ e = .returned (v x) ∧ Mem W [(b, o)] [] w
section
variable {P : Program} {ops : Array Oper} {Q : Exit → Act → World → Prop} {n : Nat} {r : Regs} {ds : List Deferred} {W : World} {chg news : Blks} {rest : List Oper} {d : Nat}
theorem RunL.callX {β : Type} {o : Oper} {f : FuncId} {args : Array Value} {v : β → Value} {I : β → Prop} {b : Nat} {ob ob' : Obj} {news' : Blks} (hi : IsCall P r o f args) (hg : guardB ops r o.guard = some true) (hd : o.dst = some d) (hn : Nat.ble (d + 1) n = true)
    (hu : Upd news b ob ob' news') (hc : ∀ w, Mem W chg news w → Calls P f args w (TurnsX b ob' v I w)) (h : ∀ x, I x → RunL P ops Q n rest ((d, v x) :: r) ds W chg news') : RunL P ops Q n (o :: rest) r ds W chg news :=
  RunL.call hg hd (fun a w s => hi.runs a w s.agree) hc (fun a w e w' s hR => by
    obtain ⟨x, hx, rfl, hm⟩ := hR
    have s2 := s.put (Nat.le_of_ble_eq_true hn) (v x)
    exact h x hx _ _ ⟨s2.size, s2.agree, s2.defers, s.mem.turn_new hu hm⟩)
theorem RunL.callX_chg {β : Type} {o : Oper} {f : FuncId} {args : Array Value} {v : β → Value} {I : β → Prop} {b : Nat} {ob ob' : Obj} {chg' : Blks} (hi : IsCall P r o f args) (hg : guardB ops r o.guard = some true) (hd : o.dst = some d) (hn : Nat.ble (d + 1) n = true)
    (hu : Upd chg b ob ob' chg') (hc : ∀ w, Mem W chg news w → Calls P f args w (TurnsX b ob' v I w)) (h : ∀ x, I x → RunL P ops Q n rest ((d, v x) :: r) ds W chg' news) : RunL P ops Q n (o :: rest) r ds W chg news :=
  RunL.call hg hd (fun a w s => hi.runs a w s.agree) hc (fun a w e w' s hR => by
    obtain ⟨x, hx, rfl, hm⟩ := hR
    have s2 := s.put (Nat.le_of_ble_eq_true hn) (v x)
    exact h x hx _ _ ⟨s2.size, s2.agree, s2.defers, s.mem.turn_chg hu hm⟩)
variable {K : Act → World → Prop} {i : Nat}
theorem RunI.callX {β : Type} {o : Oper} {f : FuncId} {args : Array Value} {v : β → Value} {I : β → Prop} {b : Nat} {ob ob' : Obj} {news' : Blks} (ho : ops[i]? = some o) (hi : IsCall P r o f args) (hg : guardB ops r o.guard = some true) (hd : o.dst = some d) (hn : Nat.ble (d + 1) n = true)
    (hu : Upd news b ob ob' news') (hc : ∀ w, Mem W chg news w → Calls P f args w (TurnsX b ob' v I w)) (h : ∀ x, I x → RunK n K ((d, v x) :: r) ds W chg news') : RunI P ops Q n i K r ds W chg news :=
  RunI.call ho hi hg hc (fun a w e w' s hR => by
    obtain ⟨x, hx, rfl, hm⟩ := hR
    have s2 := s.put (Nat.le_of_ble_eq_true hn) (v x)
    simp only [hd]
    exact h x hx _ _ ⟨s2.size, s2.agree, s2.defers, s.mem.turn_new hu hm⟩)
theorem RunI.callX_chg {β : Type} {o : Oper} {f : FuncId} {args : Array Value} {v : β → Value} {I : β → Prop} {b : Nat} {ob ob' : Obj} {chg' : Blks} (ho : ops[i]? = some o) (hi : IsCall P r o f args) (hg : guardB ops r o.guard = some true) (hd : o.dst = some d) (hn : Nat.ble (d + 1) n = true)
    (hu : Upd chg b ob ob' chg') (hc : ∀ w, Mem W chg news w → Calls P f args w (TurnsX b ob' v I w)) (h : ∀ x, I x → RunK n K ((d, v x) :: r) ds W chg' news) : RunI P ops Q n i K r ds W chg news :=
  RunI.call ho hi hg hc (fun a w e w' s hR => by
    obtain ⟨x, hx, rfl, hm⟩ := hR
    have s2 := s.put (Nat.le_of_ble_eq_true hn) (v x)
    simp only [hd]
    exact h x hx _ _ ⟨s2.size, s2.agree, s2.defers, s.mem.turn_chg hu hm⟩)
theorem RunE.retX {β : Type} {fn : Func} {b : Nat} {o : Obj} {v : β → Value} {I : β → Prop} (x : β) (hx : I x) {u : Value} (hv : ResVs P r ([(b, o)] ++ news) fn u) (he : u = v x) : RunE (bodyPost P fn (TurnsX b o v I W)) n .ret r [] W [(b, o)] news :=
  RunE.ret (chg := [(b, o)]) hv (fun _ hm => ⟨x, hx, by rw [he], hm.drop⟩)
theorem RunC.drawX {X : Type} {id : Nat} {l : List Oper} {news0 : Blks} {q : Regs} (k : Nat) (n0 : Blks) (R : X → Regs → Regs) (C V T : X → Blks) (Inv : X → Prop) (hm : P.follows .mixedOrders = true) (hp : Pick news0 news) (_hs : Sub q r) (_hn : Pick n0 news)
    (h : RunA P l.toArray (SegQ Q (MeetP n ds W (fun x => R x q) C (fun x => V x ++ (n0 ++ T x)) Inv)) k (fun c => c = chg) news0 n l.toArray.size (Array.replicate l.toArray.size false) r ds W chg news)
    (h2 : ∀ x, Inv x → RunE Q n .normal (R x q) ds W (C x) (V x ++ (n0 ++ T x))) : RunC P Q n (.region id l.toArray true) r ds W chg news :=
  RunC.drawJ k hm hp h (fun a w hj => by
    obtain ⟨x, hi, sx⟩ := hj
    exact h2 x hi a w sx)
theorem RunE.joinX {X : Type} {R : X → Regs} {C Nw : X → Blks} {Inv : X → Prop} (x : X) (hi : Inv x) (hc : chg = C x) (hs : Sub (R x) r) (hn : Pick (Nw x) news) : RunE (SegQ Q (MeetP n ds W R C Nw Inv)) n .normal r ds W chg news := fun _ _ s =>
  ⟨x, hi, by subst hc; exact s.pick hs hn⟩
end
end Go.Eng
/- The engine: an element of an array value; a deferred call of a function value that holds a block. No program is in sight. -/
namespace Go.Eng
open Go Go.RowKit
section
variable {P : Program} {r : Regs} {W : World} {chg news : Blks}
variable {d : Nat} {ty : TypeId} {pos : String} {after : Array Edge} {dst : Option Tmp} {gd : Option (Nat × Bool)}
/-- An array of elements of one cell: of how many. -/
def arr1B (P : Program) (T : TypeId) : Option Nat :=
  match P.underlying T with
  | some (.array n e) => match P.underlying e with
    | some d => if isAggD d then none else match P.info? e with
      | some j => if j.size = 1 then some n else none
      | none => none
    | none => none
  | _ => none
theorem Val.index1 {x y : Operand} {T : TypeId} {len : Nat} {cs : Array Value} {v : Value} {k : IntKind} {i : Int} (hx : rev r x = some (.agg cs)) (hy : rev r y = some (.int k i)) (hT : arr1B P T = some len) (h0 : 0 ≤ i) (h1 : i < len) (hv : cs[i.toNat]? = some v) :
    Val P r W chg news { dst, op := .index T x y, type := ty, pos, after, guard := gd } v :=
  ⟨fun a w ha _ => by
    unfold arr1B at hT
    split at hT
    · rename_i n e hu
      split at hT
      · rename_i d hd
        split at hT
        · cases hT
        · rename_i hag
          split at hT
          · rename_i j hj
            split at hT
            · rename_i hs
              cases hT
              have hp := run_part1 (w := w) hd (by simpa using hag) hv
              simp [execOp, ha.eval hx, ha.eval hy, Instr.index, asIntOf, run_underlying hu, sizeOf, typeInfo, hj, hs, h0, h1, hp]
            · cases hT
          · cases hT
      · cases hT
    · cases hT⟩
theorem Val.eql_iface_nil {x : Operand} {T yt t : TypeId} {v : Value} {ms : Array (String × TypeId)} (hx : rev r x = some (.iface t v)) (hT : P.underlying T = some (.interface ms)) :
    Val P r W chg news { dst, op := .binOp .eql T x (.const .nilIface) yt, type := ty, pos, after, guard := gd } (.bool false) :=
  ⟨fun a w ha _ => by
    have h := run_equal_iface_nil (P := P) (w := w) (t := t) (v := v) hT
    simp [execOp, ha.eval hx, BigFrame.eval_const, eqGuard, binOp, h]⟩
theorem Val.eql_nil_nil {x : Operand} {T yt : TypeId} {ms : Array (String × TypeId)} (hx : rev r x = some .nilIface) (hT : P.underlying T = some (.interface ms)) :
    Val P r W chg news { dst, op := .binOp .eql T x (.const .nilIface) yt, type := ty, pos, after, guard := gd } (.bool true) :=
  ⟨fun a w ha _ => by
    have h := run_equal_nil_nil (P := P) (w := w) hT
    simp [execOp, ha.eval hx, BigFrame.eval_const, eqGuard, binOp, h]⟩
/-- A quotient, and what is left, rounded toward 0. -/
theorem Val.quoT {x y : Operand} {T yt : TypeId} {k : IntKind} {p q : Int} (hx : rev r x = some (.int k p)) (hy : rev r y = some (.int k q)) (hq : 0 < q) (hr : k.wrap (p.tdiv q) = p.tdiv q) :
    Val P r W chg news { dst, op := .binOp .quo T x y yt, type := ty, pos, after, guard := gd } (.int k (p.tdiv q)) :=
  ⟨fun a w ha _ => by
    have : ¬ q = 0 := by omega
    simp [execOp, ha.eval hx, ha.eval hy, eqGuard, binOp, Op.intDiv, this, hr]⟩
theorem Val.remT {x y : Operand} {T yt : TypeId} {k : IntKind} {p q : Int} (hx : rev r x = some (.int k p)) (hy : rev r y = some (.int k q)) (hq : 0 < q) :
    Val P r W chg news { dst, op := .binOp .rem T x y yt, type := ty, pos, after, guard := gd } (.int k (p.tmod q)) :=
  ⟨fun a w ha _ => by
    have : ¬ q = 0 := by omega
    simp [execOp, ha.eval hx, ha.eval hy, eqGuard, binOp, Op.intDiv, this]⟩
/-- What is left of a slice without its first elements. -/
theorem Val.sliceFrom {x y : Operand} {T e : TypeId} {b o n cap sz : Nat} {k : IntKind} {i : Int} {q : Option Addr} (hx : rev r x = some (.slice q n cap)) (hy : rev r y = some (.int k i)) (hT : slB P T = some (e, sz)) (hq : q = some ⟨b, o, none⟩) (h0 : 0 ≤ i) (h1 : i < n) (h2 : n ≤ cap) :
    Val P r W chg news { dst, op := .slice T x (some y) none none, type := ty, pos, after, guard := gd } (.slice (some ⟨b, o + i.toNat * sz, none⟩) (n - i.toNat) (cap - i.toNat)) :=
  ⟨fun a w ha _ => by
    subst hq
    unfold slB at hT
    split at hT
    · rename_i e2 hu
      cases hj : P.info? e2 with
      | none => simp [hj] at hT
      | some j =>
        simp [hj] at hT
        obtain ⟨rfl, rfl⟩ := hT
        have h3 : ¬ cap = i.toNat := by omega
        have h4 : i ≤ (n : Int) := by omega
        simp [execOp, ha.eval hx, ha.eval hy, Instr.sliceAt, Instr.sureAddr, Instr.slice, Instr.sliceBounds, Instr.sliceBound, asIntOf, run_underlying hu, sizeOf, typeInfo, hj, h0, h4, h3, add_plain]
    · cases hT⟩
end
section
variable {P : Program} {ops : Array Oper} {Q : Exit → Act → World → Prop} {n : Nat} {r : Regs} {ds : List Deferred} {W : World} {chg news : Blks}
/-- A loop of few rounds, one after the other. -/
theorem RunC.unroll {body : Code} (k : Nat) (h : RunC P (Exit.then (Code.rounds P body Q k) Q) n body r ds W chg news) : RunC P Q n (.loop body) r ds W chg news := fun a w s => wp_loop_rounds (k + 1) (h a w s)
theorem RunE.rounds {body : Code} {k : Nat} (h : RunC P (Exit.then (Code.rounds P body Q k) Q) n body r ds W chg news) : RunE (Exit.then (Code.rounds P body Q (k + 1)) Q) n .normal r ds W chg news := fun a w s => h a w s
theorem leaves_calmC {fn : Func} {f : FuncId} {T : TypeId} {mis : Int → Value} {v v0 : Value} {b : Nat} (hc : Catches P f T mis) (he : Enters P f) (hv : ResVs P r news fn v) (hv0 : v = v0) {a : Act} {w : World} (s : St n r [{ target := .fn (.func f) #[.pointer (some ⟨b, 0, none⟩)], args := #[] }] W [] news a w) :
    Leaves P fn a.tmps (Pure v0 W) a.defers .returning w := by
  rw [s.defers]
  refine leaves_cons (f := f) (args := #[.pointer (some ⟨b, 0, none⟩)]) (by simp) (by simp [invoke]; exact he _ _) ?_
  refine (hc.calm b w).mono ?_
  rintro e u w' ⟨⟨x, rfl⟩, rfl, hm⟩
  have hm2 := s.mem.pass hm
  exact ⟨v, hv.run s.agree (fun _ _ h => hm2.at (by simpa using h)), by rw [hv0], hm2.drop⟩
theorem RunE.retDC {fn : Func} {f : FuncId} {T : TypeId} {mis : Int → Value} {v v0 : Value} {b : Nat} (hc : Catches P f T mis) (he : Enters P f) (hv : ResVs P r news fn v) (hv0 : v = v0) :
    RunE (bodyPostD P fn (Pure v0 W)) n .ret r [{ target := .fn (.func f) #[.pointer (some ⟨b, 0, none⟩)], args := #[] }] W [] news := fun _ _ s => leaves_calmC hc he hv hv0 s
theorem RunE.panDC {fn : Func} {f : FuncId} {T : TypeId} {mis : Int → Value} {v v0 x : Value} {b : Nat} {k : Int} {news' : Blks} (hc : Catches P f T mis) (he : Enters P f) (hu : Upd news b (.cells #[x] T (0, 0)) (.cells #[.int .i64 k] T (0, 0)) news') (hv : ResVs P r news' fn v) (hv0 : v = v0) :
    RunE (bodyPostD P fn (Pure v0 W)) n (.panic [{ v := mis k, recovered := false }]) r [{ target := .fn (.func f) #[.pointer (some ⟨b, 0, none⟩)], args := #[] }] W [] news := fun a w s => by
  show Leaves P fn a.tmps (Pure v0 W) a.defers _ w
  rw [s.defers]
  refine leaves_cons (f := f) (args := #[.pointer (some ⟨b, 0, none⟩)]) (by simp) (by simp [invoke]; exact he _ _) ?_
  refine (hc.wild b k x w (s.mem.newd _ _ hu.mem).2).mono ?_
  rintro e u w' ⟨⟨y, rfl⟩, rfl, hm⟩
  have hm2 := s.mem.turn_new hu hm
  exact ⟨v, hv.run s.agree (fun _ _ h => hm2.at (by simpa using h)), by rw [hv0], hm2.drop⟩
end
end Go.Eng
/- The engine: a deferred function that calls another one besides recovering, where its caller ranges over a function; leaving such a caller. No program is in sight. -/
namespace Go.Eng
open Go Go.RowKit
section
variable {P : Program}
theorem callsDIn_wide_of_wpS {f : FuncId} {fn : Func} {c : Code} {args : Array Value} {u : FrameMode} {w : World} {n : Nat} {R : Ending → FrameMode → World → Prop} (hf : P.funcs[f]? = some fn) (hb : fn.body = some c)
    (h : ∀ (c₀ : Frame) (cs : List Frame), c₀.mode = u → c.wpS P (bodyPostS P fn c₀ cs R) { tmps := args ++ Array.replicate (fn.ntmps - args.size) undef, defers := [] } (c₀ :: cs) w) :
    CallsDIn Fence.wide n P f args u w R := by
  refine ⟨trivial, fun c₀ cs hu _ => ?_⟩
  obtain ⟨e, a', cs', w', hq, harr⟩ := h c₀ cs hu { (default : Frame) with fn := f, kind := .deferred } [] rfl rfl
  have hen : Frame.enter P f args .deferred = ({ (default : Frame) with fn := f, kind := .deferred } : Frame).at { tmps := args ++ Array.replicate (fn.ntmps - args.size) undef, defers := [] } [.code c] := by
    simp [Frame.enter, Frame.at, hf, hb]
  rw [← hen] at harr
  match e, hq, harr with
  | .normal, ⟨hd, u', hc, v, hr, hR⟩, harr =>
    subst hc
    exact ⟨.returned v, u', w', _, hR, (comesIn_wide (P := P) (e := .returned v)).2 (Steps.trans harr (.one step_end)), rfl, rfl, rfl, hd, fn, hf, hr⟩
  | .ret, ⟨hd, u', hc, v, hr, hR⟩, ⟨_, hs⟩ =>
    subst hc
    exact ⟨.returned v, u', w', _, hR, (comesIn_wide (P := P) (e := .returned v)).2 hs, rfl, rfl, rfl, hd, fn, hf, hr⟩
  | .panic chain, ⟨hd, u', hc, hR⟩, ⟨_, hs⟩ =>
    subst hc
    exact ⟨.panicked chain, u', w', _, hR, (comesIn_wide (P := P) (e := .panicked chain)).2 hs, rfl, rfl, rfl, hd, fn, hf⟩
  | .outgrown, ⟨u', hR⟩, harr =>
    exact ⟨.outgrown, u', w', { (default : Frame) with fn := f, kind := .deferred }, hR, (comesIn_wide (P := P) (e := .outgrown)).2 (harr.resolve_left (by simp)), rfl, rfl, trivial⟩
variable {W w : World} {chg news : Blks}
/-- Some cells of one row of a slice. -/
theorem Sl.loadPart {α : Type} {f : α → List Value} {T : TypeId} {p : Option Addr} {b o sz m : Nat} {l : List α} (h : Sl W p b o sz (l.map f)) (hm : Mem W chg news w) (hc : ∀ ob, (b, ob) ∉ chg) (hT : tyB P T = some (true, m)) {i : Nat} (hi : i < l.length) {x : α} (hx : l[i] = x) {j : Nat} (hj : j + m ≤ sz) {vs : List Value} (hv : grab (f x) j m = some vs) (hm0 : 0 < m) {off : Nat} (ho : off = o + i * sz + j) :
    (loadVar T ⟨b, off, none⟩).run P w = .ok (.agg vs.toArray) w := by
  subst hx
  subst ho
  have hi' : i < (l.map f).length := by simpa using hi
  obtain ⟨h1, h2⟩ := grab_spec hv
  refine run_loadVar_agg (by rw [h1]; exact hT) (fun k hk => ?_)
  rw [add_plain, hm.cell (p := ⟨b, _, none⟩) (h.lt (by omega) hi') hc, Nat.add_assoc (o + i * sz) j k, h.cell i hi' (j + k) (by omega), List.getElem_map, h2 k (by omega)]
  simp [hk]
end
section
variable {P : Program} {ops : Array Oper} {Q : Exit → Act → World → Prop} {n d i : Nat} {r : Regs} {ds : List Deferred} {W : World} {chg news : Blks} {K : Act → World → Prop}
theorem RunC.drawPJ {id : Nat} {l : List Oper} {news0 : Blks} {J : Act → World → Prop} (k : Nat) (hm : P.follows .mixedOrders = true) (hp : Pick news0 news) (h : RunA P l.toArray (PanQ (SegQ Q J) n r ds W chg news0) k (fun c => c = chg) news0 n l.toArray.size (Array.replicate l.toArray.size false) r ds W chg news) (h2 : ∀ a w, J a w → Q .normal a w) :
    RunC P Q n (.region id l.toArray true) r ds W chg news := fun a w s =>
  Code.wp_mono (fun e a w hq => by cases e <;> first | exact h2 a w hq | exact hq) (RunC.drawP (Q := SegQ Q J) k hm hp h a w s)
theorem RunC.drawPX {X : Type} {id : Nat} {l : List Oper} {news0 : Blks} {q : Regs} (k : Nat) (n0 : Blks) (R : X → Regs → Regs) (C V T : X → Blks) (Inv : X → Prop) (hm : P.follows .mixedOrders = true) (hp : Pick news0 news) (_hs : Sub q r) (_hn : Pick n0 news)
    (h : RunA P l.toArray (PanQ (SegQ Q (MeetP n ds W (fun x => R x q) C (fun x => V x ++ (n0 ++ T x)) Inv)) n r ds W chg news0) k (fun c => c = chg) news0 n l.toArray.size (Array.replicate l.toArray.size false) r ds W chg news)
    (h2 : ∀ x, Inv x → RunE Q n .normal (R x q) ds W (C x) (V x ++ (n0 ++ T x))) : RunC P Q n (.region id l.toArray true) r ds W chg news :=
  RunC.drawPJ k hm hp h (fun a w hj => by
    obtain ⟨x, hi, sx⟩ := hj
    exact h2 x hi a w sx)
theorem RunE.seg_panic {J : Act → World → Prop} {c : List PanicEntry} (h : RunE Q n (.panic c) r ds W chg news) : RunE (SegQ Q J) n (.panic c) r ds W chg news := h
theorem RunL.deferC {x : Operand} {fn : Fn} {cap : Array Value} {rest : List Oper} {ty : TypeId} {pos : String} {after : Array Edge} {ats : Array TypeId} (hx : rev r x = some (.func fn #[] cap))
    (h : RunL P ops Q n rest r ({ target := .fn fn cap, args := #[] } :: ds) W chg news) :
    RunL P ops Q n ({ dst := none, op := .defer { callee := .value x, args := #[], argTypes := ats }, type := ty, pos, after, guard := none } :: rest) r ds W chg news := fun a w s =>
  wpList_plain rfl fun K hK => by
    have h1 := s.agree.eval hx
    have e : (execOp a.eval { dst := none, op := .defer { callee := .value x, args := #[], argTypes := ats }, type := ty, pos, after, guard := none }).run P w = .ok (.defer { target := .fn fn cap, args := #[] }) w := by
      simp [execOp, resolve, h1, Deferred.ofValue]
    unfold Oper.wp
    rw [e, Oper.upon_defer]
    exact hK _ _ (h _ _ ⟨s.size, s.agree, by rw [← s.defers]; rfl, s.mem⟩)
theorem RunI.callTN {α : Type} {o : Oper} {f : FuncId} {args : Array Value} {mis : Int → Value} {x : Except Int α} {v : α → Nat → Value} {nw : α → Nat → Blks} (ho : ops[i]? = some o) (hi : IsCall P r o f args) (hg : guardB ops r o.guard = some true) (hd : o.dst = some d) (hn : Nat.ble (d + 1) n = true)
    (hc : ∀ w, Mem W chg news w → Calls P f args w (TryN mis x v nw w)) (herr : ∀ k, x = .error k → RunE Q n (.panic [{ v := mis k, recovered := false }]) r ds W chg news)
    (hok : ∀ a, x = .ok a → ∀ b, RunK n K ((d, v a b) :: r) ds W chg (nw a b ++ news)) : RunI P ops Q n i K r ds W chg news :=
  RunI.call ho hi hg hc (fun a w e w' s hR => by
    unfold TryN at hR
    cases x with
    | ok y =>
      obtain ⟨b, rfl, hm⟩ := hR
      have s2 := s.put (Nat.le_of_ble_eq_true hn) (v y b)
      simp only [hd]
      exact hok y rfl b _ _ ⟨s2.size, s2.agree, s2.defers, s.mem.trans hm⟩
    | error k =>
      obtain ⟨rfl, hm⟩ := hR
      exact herr k rfl a w' ⟨s.size, s.agree, s.defers, s.mem.pass hm⟩)
end
end Go.Eng
/- The engine inside a round of a range over a function: all of its judgements there; ranges whose variables are laid in blocks, ranges in rounds, rounds that break off or return; functions that hold several. No program is in sight. -/
namespace Go.Eng
open Go Go.RowKit

theorem wpIn_scope_straight {F : Fence} {n : Nat} {P : Program} {Q : Exit → Act → World → Prop} {a : Act} {w : World} {c : Code} (h : c.wpIn F n P (Exit.noGoto Q) a w) : (Code.scope c).wpIn F n P Q a w := by
  intro b k cs hro hb hr
  have st1 : ∀ a w k, step P (lone (b.atR a (.code (.scope c) :: k)) cs w) = .next (lone (b.atR a (.code c :: .inScope c :: k)) cs w) := fun a w k => step_lone_go (by simp [stepG, stepG.exec, Frame.atR])
  have st2 : ∀ a w k, step P (lone (b.atR a (.inScope c :: k)) cs w) = .next (lone (b.atR a k) cs w) := fun a w k => step_lone_go (by simp [stepG, stepG.exec, Frame.atR])
  have h0 : (lone (b.atR a (.code (.scope c) :: k)) cs w).fenced P F := fenced_calm hb hr rfl
  obtain ⟨e, a₁, w₁, hq, harr⟩ := h b (.inScope c :: k) cs hro hb hr
  cases e with
  | normal => exact ⟨.normal, a₁, w₁, hq, .head h0 (st1 _ _ _) (StepsIn.trans harr (.one (fenced_calm hb hr rfl) (st2 _ _ _)))⟩
  | exit id =>
    have hx : exitTo id (.inScope c :: k) = exitTo id k := by simp [exitTo]
    exact ⟨.exit id, a₁, w₁, hq, fun k' hk => .head h0 (st1 _ _ _) (harr.1 k' (by rw [hx]; exact hk)), fun hr' hk => let ⟨k₁, h1, h2⟩ := harr.2 hr' (by rw [hx]; exact hk); ⟨k₁, h1, .head h0 (st1 _ _ _) h2⟩⟩
  | goto l => exact hq.elim
  | ret => exact ⟨_, a₁, w₁, hq, .of_steps (.one h0 (st1 _ _ _)) harr⟩
  | panic ch => exact ⟨_, a₁, w₁, hq, .of_steps (.one h0 (st1 _ _ _)) harr⟩
  | outgrown => exact ⟨_, a₁, w₁, hq, .of_steps (.one h0 (st1 _ _ _)) harr⟩

section
variable {ro : Option Nat} {P : Program} {ops : Array Oper} {Q : Exit → Act → World → Prop} {n : Nat} {r : Regs} {ds : List Deferred} {W : World} {chg news : Blks} {rest : List Oper}

/-! ### What holds of a region outside of rounds holds inside -/
def noDefers (ops : Array Oper) : Bool := ops.toList.all notDefer
theorem rows_in {row : String} {args : Array Value} {w : World} {R : Value → World → Prop} {m : Nat} (h : Rows P row args w R) : RowsIn (Fr ro) m P row args w R := fun c cs _ =>
  let ⟨v, w', hR, s⟩ := h c cs
  ⟨v, w', hR, by
    have e : Machine.fenced P (Fr ro) = Machine.fenced P Fence.wide := by cases ro <;> rfl
    rw [e]; exact stepsIn_wide.2 s⟩
theorem calls_in {f : FuncId} {args : Array Value} {w : World} {R : Ending → World → Prop} {m : Nat} (h : Calls P f args w R) : CallsIn (Fr ro) m P f args w R := by
  have h2 : CallsIn Fence.wide m P f args w R := callsIn_wide.2 h
  cases ro with
  | none => exact h2
  | some l => exact CallsIn.inRound l h2
theorem upon_in {o : Oper} {a : Act} {K : Act → World → Prop} {x : Result Next} (h : o.upon P a K Q x) : o.uponIn (Fr ro) 9 P a K Q x := by
  cases x with
  | ok nx w' =>
    cases nx <;> simp only [Oper.upon, Oper.uponIn] at h ⊢ <;>
      first
        | exact h
        | exact ⟨fun h => (by cases h), (calls_in h).mono (fun e w'' he => by cases e <;> exact he)⟩
        | exact ⟨fun h => (by cases h), rows_in h⟩
  | halt x w' => cases x <;> simp only [Oper.upon, Oper.uponIn] at h ⊢ <;> exact h
theorem oper_in {o : Oper} {a : Act} {w : World} {K : Act → World → Prop} (hnd : notDefer o = true) (hlo : LetsOut Q → False) (h : o.wp P a w K Q ∨ (o.asks P a w ∧ LetsOut Q)) : o.wpIn (Fr ro) 9 P a w K Q := by
  rcases h with h | h
  · refine ⟨fun _ _ => trivial, ?_⟩
    rw [Oper.semAt_eq _ _ _ (notDefer_spec hnd)]
    exact upon_in h
  · exact (hlo h.2).elim
theorem list_in (hlo : LetsOut Q → False) : ∀ (l : List Oper) (a : Act) (w : World), l.all notDefer = true → wpList P ops Q l a w → wpListIn (Fr ro) 9 P ops Q l a w
  | [], _, _, _, h => h
  | o :: l, a, w, hn, h => by
    simp only [List.all_cons, Bool.and_eq_true] at hn
    simp only [wpList, wpListIn] at h ⊢
    split
    · rename_i hw
      rw [if_pos hw] at h
      exact oper_in hn.1 hlo (h.imp (Oper.wp_mono (fun a w h => list_in hlo l a w hn.2 h)) id)
    · rename_i hw
      rw [if_neg hw] at h
      exact ⟨fun _ _ => trivial, list_in hlo l _ _ hn.2 h⟩
theorem op_in {i : Nat} {K K' : Act → World → Prop} {a : Act} {w : World} (hn : noDefers ops = true) (hlo : LetsOut Q → False) (hK : ∀ a w, K a w → K' a w) (h : wpOp P ops Q i K a w) : wpOpIn (Fr ro) 9 P ops Q i K' a w := by
  unfold wpOp at h
  unfold wpOpIn
  cases ho : ops[i]? with
  | none => simp only [ho] at h ⊢; exact hK _ _ h
  | some o =>
    simp only [ho] at h ⊢
    have hnd : notDefer o = true := List.all_eq_true.1 hn o (by
      obtain ⟨h1, h2⟩ := Array.getElem?_eq_some_iff.1 ho
      rw [← h2]; exact Array.mem_toList_iff.2 (Array.getElem_mem h1))
    split
    · rename_i hw
      rw [if_pos hw] at h
      exact oper_in hnd hlo (h.imp (Oper.wp_mono hK) id)
    · rename_i hw
      rw [if_neg hw] at h
      exact ⟨fun _ _ => trivial, hK _ _ h⟩
theorem any_in (hn : noDefers ops = true) (hlo : LetsOut Q → False) : ∀ (fuel : Nat) (listed : Array Bool) (a : Act) (w : World), wpAny P .any ops Q fuel listed a w → wpAnyIn (Fr ro) 9 P .any ops Q fuel listed a w
  | 0, _, _, _, h => h
  | fuel + 1, _, _, _, h => ⟨h.1, fun i hi => op_in hn hlo (fun a' w' h' => any_in hn hlo fuel _ a' w' h') (h.2 i hi)⟩
theorem lets_no {Q : Exit → Act → World → Prop} (h : ∀ a w, Q .outgrown a w → False) : LetsOut Q → False := fun ⟨a, w, hq⟩ => h a w hq

theorem RunCR.regionP {id : Nat} {l : List Oper} (h : RunL P l.toArray Q n l r ds W chg news) (hnd : l.all notDefer = true := by rfl) (hlo : ∀ a w, Q .outgrown a w → False := by exact fun _ _ h => h) : RunCR ro P Q n (.region id l.toArray false) r ds W chg news := fun a w s =>
  wpIn_region_lit (list_in (lets_no hlo) l a w hnd (h a w s))
theorem RunCR.draw {id : Nat} {l : List Oper} {news0 : Blks} (k : Nat) (hm : P.follows .mixedOrders = true) (_hp : Pick news0 news) (h : RunA P l.toArray Q k (fun c => c = chg) news0 n l.toArray.size (Array.replicate l.toArray.size false) r ds W chg news) (hnd : noDefers l.toArray = true := by rfl) (hlo : ∀ a w, Q .outgrown a w → False := by exact fun _ _ h => h) : RunCR ro P Q n (.region id l.toArray true) r ds W chg news := fun a _ s =>
  wpIn_region_any hm (any_in hnd (lets_no hlo) _ _ _ _ (wpAny_of_T _ _ _ _ (h a _ s.drew Closed.start)))
theorem RunCR.drawK {id : Nat} {l : List Oper} {news0 : Blks} (k : Nat) (hm : P.follows .mixedOrders = true) (_hp : Pick news0 news) (h : RunA P l.toArray Q k (fun c => c.map (·.1) = chg.map (·.1)) news0 n l.toArray.size (Array.replicate l.toArray.size false) r ds W chg news) (hnd : noDefers l.toArray = true := by rfl) (hlo : ∀ a w, Q .outgrown a w → False := by exact fun _ _ h => h) : RunCR ro P Q n (.region id l.toArray true) r ds W chg news := fun a _ s =>
  wpIn_region_any hm (any_in hnd (lets_no hlo) _ _ _ _ (wpAny_of_T _ _ _ _ (h a _ s.drew Closed.start)))
theorem RunCR.drawJ {id : Nat} {l : List Oper} {news0 : Blks} {J : Act → World → Prop} (k : Nat) (hm : P.follows .mixedOrders = true) (_hp : Pick news0 news) (h : RunA P l.toArray (SegQ Q J) k (fun c => c = chg) news0 n l.toArray.size (Array.replicate l.toArray.size false) r ds W chg news) (h2 : ∀ a w, J a w → Q .normal a w) (hnd : noDefers l.toArray = true := by rfl) (hlo : ∀ a w, Q .outgrown a w → False := by exact fun _ _ h => h) :
    RunCR ro P Q n (.region id l.toArray true) r ds W chg news := fun a _ s =>
  Go.wpIn_mono (wpIn_region_any hm (any_in (Q := SegQ Q J) hnd (lets_no (Q := SegQ Q J) (fun a w hq => hlo a w hq)) _ _ _ _ (wpAny_of_T _ _ _ _ (h a _ s.drew Closed.start)))) (fun e a w hq => by cases e <;> first | exact h2 a w hq | exact hq)
theorem RunCR.drawX {X : Type} {id : Nat} {l : List Oper} {news0 : Blks} {q : Regs} (k : Nat) (n0 : Blks) (R : X → Regs → Regs) (C V T : X → Blks) (Inv : X → Prop) (hm : P.follows .mixedOrders = true) (hp : Pick news0 news) (_hs : Sub q r) (_hn : Pick n0 news)
    (h : RunA P l.toArray (SegQ Q (MeetP n ds W (fun x => R x q) C (fun x => V x ++ (n0 ++ T x)) Inv)) k (fun c => c = chg) news0 n l.toArray.size (Array.replicate l.toArray.size false) r ds W chg news)
    (h2 : ∀ x, Inv x → RunE Q n .normal (R x q) ds W (C x) (V x ++ (n0 ++ T x))) (hnd : noDefers l.toArray = true := by rfl) (hlo : ∀ a w, Q .outgrown a w → False := by exact fun _ _ h => h) : RunCR ro P Q n (.region id l.toArray true) r ds W chg news :=
  RunCR.drawJ k hm hp h (fun a w hj => by
    obtain ⟨x, hi, sx⟩ := hj
    exact h2 x hi a w sx) hnd hlo
theorem RunCR.scope {c : Code} (h : RunCR ro P (Exit.noGoto Q) n c r ds W chg news) : RunCR ro P Q n (.scope c) r ds W chg news := fun a w s => wpIn_scope_straight (h a w s)
theorem RunCR.label {l : Nat} (h : RunE Q n .normal r ds W chg news) : RunCR ro P Q n (.label l) r ds W chg news := fun a w s => wpIn_label (h a w s)
theorem RunCR.cond_true {c : Operand} {x y : Code} (hc : rev r c = some (.bool true)) (ht : RunCR ro P Q n x r ds W chg news) : RunCR ro P Q n (.cond c x y) r ds W chg news :=
  RunCR.cond hc (fun _ => ht) (fun h => by cases h)
theorem RunCR.cond_false {c : Operand} {x y : Code} (hc : rev r c = some (.bool false)) (hf : RunCR ro P Q n y r ds W chg news) : RunCR ro P Q n (.cond c x y) r ds W chg news :=
  RunCR.cond hc (fun h => by cases h) (fun _ => hf)
theorem RunCR.keep {c : Code} {q : Regs} {news' : Blks} (hs : Sub q r) (hn : Pick news' news) (h : RunCR ro P Q n c q ds W chg news') : RunCR ro P Q n c r ds W chg news := fun a w s => h a w (s.pick hs hn)
theorem RunCR.unroll {body : Code} (k : Nat) (h : RunCR ro P (Exit.then (Code.roundsIn (Fr ro) 9 P body Q k) Q) n body r ds W chg news) : RunCR ro P Q n (.loop body) r ds W chg news := fun a w s => wpIn_loop_rounds (k + 1) (h a w s)
theorem RunER.rounds {body : Code} {k : Nat} (h : RunCR ro P (Exit.then (Code.roundsIn (Fr ro) 9 P body Q k) Q) n body r ds W chg news) : RunE (Exit.then (Code.roundsIn (Fr ro) 9 P body Q (k + 1)) Q) n .normal r ds W chg news := fun a w s => h a w s
theorem RunCR.loopK {body : Code} {q : Regs} {n0 : Blks} (N : Nat) (R : Nat → Regs → Regs) (C V : Nat → Blks) (Inv : Nat → Prop) (h0 : Inv 0) (hc : chg = C 0) (hs : Sub (R 0 q) r) (hn : Pick (V 0 ++ n0) news)
    (hb : ∀ k, k ≤ N → Inv k → RunCR ro P (Exit.then (Round n ds W C N Inv (fun k => R k q) (fun k => V k ++ n0) k) Q) n body (R k q) ds W (C k) (V k ++ n0)) : RunCR ro P Q n (.loop body) r ds W chg news := by
  have key : ∀ (m k : Nat), N - k < m → k ≤ N → Inv k → ∀ a w, St n (R k q) ds W (C k) (V k ++ n0) a w → Code.roundsIn (Fr ro) 9 P body Q m a w := by
    intro m
    induction m with
    | zero => intro k h; omega
    | succ m ih =>
      intro k hk hN hi a w s
      rw [roundsIn_succ]
      refine Go.wpIn_mono (hb k hN hi a w s) ?_
      rintro e a2 w2 hq
      cases e with
      | normal =>
        obtain ⟨k', h1, h2, h3, s2⟩ := hq
        exact ih k' (by omega) h2 h3 a2 w2 s2
      | exit id => exact hq
      | goto l => exact hq
      | ret => exact hq
      | panic c => exact hq
      | outgrown => exact hq
  intro a w s
  subst hc
  exact wpIn_loop_rounds _ (key _ 0 (Nat.lt_succ_self _) (Nat.zero_le _) h0 a w (s.pick hs hn))
theorem RunCR.loopX {X : Type} {body : Code} {q : Regs} (n0 : Blks) (N : Nat) (R : Nat → X → Regs → Regs) (C V T : Nat → X → Blks) (Inv : Nat → X → Prop) (x0 : X) (h0 : Inv 0 x0) (hc : chg = C 0 x0) (hs : Sub (R 0 x0 q) r) (hn : Pick (V 0 x0 ++ (n0 ++ T 0 x0)) news)
    (hb : ∀ k x, k ≤ N → Inv k x → RunCR ro P (Exit.then (RoundX n ds W C N Inv (fun k x => R k x q) (fun k x => V k x ++ (n0 ++ T k x)) k) Q) n body (R k x q) ds W (C k x) (V k x ++ (n0 ++ T k x))) : RunCR ro P Q n (.loop body) r ds W chg news := by
  have key : ∀ (m k : Nat) (x : X), N - k < m → k ≤ N → Inv k x → ∀ a w, St n (R k x q) ds W (C k x) (V k x ++ (n0 ++ T k x)) a w → Code.roundsIn (Fr ro) 9 P body Q m a w := by
    intro m
    induction m with
    | zero => intro k x h; omega
    | succ m ih =>
      intro k x hk hN hi a w s
      rw [roundsIn_succ]
      refine Go.wpIn_mono (hb k x hN hi a w s) ?_
      rintro e a2 w2 hq
      cases e with
      | normal =>
        obtain ⟨k', x', h1, h2, h3, s2⟩ := hq
        exact ih k' x' (by omega) h2 h3 a2 w2 s2
      | exit id => exact hq
      | goto l => exact hq
      | ret => exact hq
      | panic c => exact hq
      | outgrown => exact hq
  intro a w s
  subst hc
  exact wpIn_loop_rounds _ (key _ 0 x0 (Nat.lt_succ_self _) (Nat.zero_le _) h0 a w (s.pick hs hn))
theorem RunCR.seqJ {X : Type} {c1 c2 : Code} {q : Regs} (n0 : Blks) (R : X → Regs → Regs) (C V T : X → Blks) (Inv : X → Prop) (_hs : Sub q r) (_hn : Pick n0 news)
    (h : RunCR ro P (Exit.then (MeetP n ds W (fun x => R x q) C (fun x => V x ++ (n0 ++ T x)) Inv) Q) n c1 r ds W chg news)
    (h2 : ∀ x, Inv x → RunCR ro P Q n c2 (R x q) ds W (C x) (V x ++ (n0 ++ T x))) : RunCR ro P Q n (.seq c1 c2) r ds W chg news := fun a w s =>
  wpIn_seq (Go.wpIn_mono (h a w s) (fun e a' w' he => by
    cases e with
    | normal => obtain ⟨x, hi, sx⟩ := he; exact h2 x hi a' w' sx
    | exit id => exact he
    | goto l => exact he
    | ret => exact he
    | panic c => exact he
    | outgrown => exact he))
end

/-! ### Ranges -/
section
variable {ro : Option Nat} {P : Program} {ops : Array Oper} {Q : Exit → Act → World → Prop} {n : Nat} {r : Regs} {ds : List Deferred} {W : World} {chg news : Blks} {rest : List Oper}

/-- The registers behind the parameters of a round. -/
def putsR : List Nat → List Value → Regs → Regs
  | p :: ps, v :: vs, r => putsR ps vs ((p, v) :: r)
  | _, _, r => r
theorem putsR_agree : ∀ (ps : List Nat) (vs : List Value) (t : Array Value) (r : Regs), (∀ p ∈ ps, p < t.size) → (∀ u v, rget r u = some v → t[u]? = some v) →
    (∀ u v, rget (putsR ps vs r) u = some v → ((ps.zip vs).foldl (fun t (pv : Nat × Value) => t.setIfInBounds pv.1 pv.2) t)[u]? = some v) ∧ ((ps.zip vs).foldl (fun t (pv : Nat × Value) => t.setIfInBounds pv.1 pv.2) t).size = t.size
  | [], vs, t, r, _, h => by simpa [putsR] using h
  | p :: ps, [], t, r, _, h => by simpa [putsR] using h
  | p :: ps, v :: vs, t, r, hp, h => by
    have h1 := putsR_agree ps vs (t.setIfInBounds p v) ((p, v) :: r) (fun q hq => by rw [Array.size_setIfInBounds]; exact hp q (by simp [hq])) (fun u x hu => by
      have ha : Agree { tmps := t, defers := [] } r := h
      have := ha.put (d := p) (v := v) (hp p (by simp)) u x hu
      simpa [Act.put] using this)
    simpa [putsR] using h1
/-- Where the record of a round's loop lies, and that it is none of the blocks that turn. -/
structure InR (l : Nat) (W : World) (nm : List Nat) : Prop where
  rec' : ∃ x, W.heap[l]? = some (.loop x)
  notin : l ∉ nm
/-- The variables of a round are there. -/
def AsgQ {Y : Type} (n : Nat) (W : World) (V : Blks) (R : Y → Regs) (NB : Y → Blks) : Exit → Act → World → Prop
  | .normal, a, w => ∃ y, St n (R y) [] W V (NB y) a w
  | _, _, _ => False
theorem RunE.asg {Y : Type} {R : Y → Regs} {NB : Y → Blks} {V : Blks} (y : Y) (hc : chg = V) (hs : Sub (R y) r) (hn : Pick (NB y) news) : RunE (AsgQ n W V R NB) n .normal r [] W chg news := fun _ _ s => ⟨y, by subst hc; exact s.pick hs hn⟩
/-- How a round may be left: on to the next one, with the blocks V; or out of the loop. -/
def BodyX (W : World) (nv nb : List Nat) (V : Blks) (Stp : Code → Blks → Prop) : Exit → Act → World → Prop
  | .normal, _, w => ∃ B, B.map (·.1) = nb ∧ Mem W (V ++ B) [] w
  | .ret, _, w => ∃ V' B, V'.map (·.1) = nv ∧ B.map (·.1) = nb ∧ Stp .ret V' ∧ Mem W (V' ++ B) [] w
  | .exit id, _, w => ∃ V' B, V'.map (·.1) = nv ∧ B.map (·.1) = nb ∧ Stp (.exit id) V' ∧ Mem W (V' ++ B) [] w
  | _, _, _ => False
theorem RunE.bodyX {nv nb : List Nat} {V : Blks} {Stp : Code → Blks → Prop} (B : Blks) (hc : chg = V ++ B) (hb : B.map (·.1) = nb := by rfl) : RunE (BodyX W nv nb V Stp) n .normal r ds W chg news := fun _ _ s => ⟨B, hb, hc ▸ s.mem.drop⟩
theorem RunE.bodyX_ret {nv nb : List Nat} {V : Blks} {Stp : Code → Blks → Prop} (V' B : Blks) (hs : Stp .ret V') (hc : chg = V' ++ B) (hv : V'.map (·.1) = nv := by rfl) (hb : B.map (·.1) = nb := by rfl) : RunE (BodyX W nv nb V Stp) n .ret r ds W chg news := fun _ _ s => ⟨V', B, hv, hb, hs, hc ▸ s.mem.drop⟩
theorem RunE.bodyX_exit {id : Nat} {nv nb : List Nat} {V : Blks} {Stp : Code → Blks → Prop} (V' B : Blks) (hs : Stp (.exit id) V') (hc : chg = V' ++ B) (hv : V'.map (·.1) = nv := by rfl) (hb : B.map (·.1) = nb := by rfl) : RunE (BodyX W nv nb V Stp) n (.exit id) r ds W chg news := fun _ _ s => ⟨V', B, hv, hb, hs, hc ▸ s.mem.drop⟩

/-- And, where the loop goes on, something is so. -/
def BodyI (I : Prop) (Q : Exit → Act → World → Prop) : Exit → Act → World → Prop
  | .normal, a, w => I ∧ Q .normal a w
  | e, a, w => Q e a w
theorem RunE.bodyI {I : Prop} (hi : I) (h : RunE Q n .normal r ds W chg news) : RunE (BodyI I Q) n .normal r ds W chg news := fun a w s => ⟨hi, h a w s⟩
theorem RunE.bodyI_ret {I : Prop} (h : RunE Q n .ret r ds W chg news) : RunE (BodyI I Q) n .ret r ds W chg news := h
theorem RunE.bodyI_exit {I : Prop} {id : Nat} (h : RunE Q n (.exit id) r ds W chg news) : RunE (BodyI I Q) n (.exit id) r ds W chg news := h
theorem RunCR.bodyT {ro : Option Nat} {c : Code} (h : RunCR ro P Q n c r ds W chg news) : RunCR ro P (BodyI True Q) n c r ds W chg news := fun a w s =>
  Go.wpIn_mono (h a w s) (fun e a2 w2 hq => by
    cases e with
    | normal => exact ⟨trivial, hq⟩
    | _ => exact hq)
theorem Mem.roundN {w w' : World} {V V' n0 B : Blks} (h : Mem W chg (V ++ n0) w) (h' : Mem w (V' ++ B) [] w') (hm : V'.map (·.1) = V.map (·.1)) (hB : ∀ b ∈ B.map (·.1), W.heap.size ≤ b ∧ ∀ o, (b, o) ∉ chg ++ (V ++ n0)) : Mem W chg (V' ++ n0) w' := by
  have hV : ∀ b, (∃ o, (b, o) ∈ V') ↔ ∃ o, (b, o) ∈ V := fun b => by rw [← mem_names, ← mem_names, hm]
  have hge : ∀ b o, (b, o) ∈ V' → W.heap.size ≤ b := fun b o hb => by
    obtain ⟨o2, h2⟩ := (hV b).1 ⟨o, hb⟩
    exact (h.newd b o2 (List.mem_append.2 (.inl h2))).1
  have hnd := h.once
  have hout : ∀ b o, (b, o) ∈ B → W.heap.size ≤ b ∧ ∀ o, (b, o) ∉ chg ++ (V ++ n0) := fun b o hb => hB b (mem_names.2 ⟨o, hb⟩)
  refine ⟨h'.os.trans h.os, h'.tape.trans h.tape, h'.output.trans h.output, Nat.le_trans h.size h'.size, fun k hk hc => ?_, fun b o hb => ?_, fun b o hb => ?_, ?_⟩
  · rw [h'.old k (Nat.lt_of_lt_of_le hk h.size) (fun o ho => by
      rcases List.mem_append.1 ho with ho | ho
      · have := hge k o ho; omega
      · have := (hout k o ho).1; omega)]
    exact h.old k hk hc
  · have h1 := h.chgd b o hb
    refine ⟨h1.1, ?_⟩
    rw [h'.old b (h.lt_new (List.mem_append.2 (.inl hb))) (fun o2 ho => ?_)]
    · exact h1.2
    · rcases List.mem_append.1 ho with ho | ho
      · have := hge b o2 ho; omega
      · exact (hout b o2 ho).2 o (List.mem_append.2 (.inl hb))
  · rcases List.mem_append.1 hb with hb | hb
    · exact ⟨hge b o hb, h'.at (by simp [hb])⟩
    · have h1 := h.newd b o (List.mem_append.2 (.inr hb))
      refine ⟨h1.1, ?_⟩
      rw [h'.old b (h.lt_new (List.mem_append.2 (.inr (List.mem_append.2 (.inr hb))))) (fun o2 ho => ?_)]
      · exact h1.2
      · rcases List.mem_append.1 ho with ho | ho
        · obtain ⟨o3, h3⟩ := (hV b).1 ⟨o2, ho⟩
          rw [List.map_append, List.map_append, List.nodup_append] at hnd
          have h4 := (List.nodup_append.1 hnd.2.1).2.2 b (mem_names.2 ⟨o3, h3⟩) b (mem_names.2 ⟨o, hb⟩)
          exact h4 rfl
        · exact (hout b o2 ho).2 o (List.mem_append.2 (.inr (List.mem_append.2 (.inr hb))))
  · have e : (chg ++ (V' ++ n0)).map (·.1) = (chg ++ (V ++ n0)).map (·.1) := by simp [List.map_append, hm]
    rw [e]; exact hnd
/-- The variables of a round, held. -/
structure Held (n B : Nat) (r : Regs) (NB : Blks) (a : Act) (w : World) : Prop where
  size : a.tmps.size = n
  agree : Agree a r
  defers : a.defers = []
  held : ∀ b o, (b, o) ∈ NB → B ≤ b ∧ w.heap[b]? = some o
  once : (NB.map (·.1)).Nodup

/-- What a range and its rounds must be, wherever the loop stands. -/
structure RangeOk {α Y : Type} (P : Program) (n N : Nat) (r : Regs) (W : World) (chg n0 : Blks) (ps : List Nat) (assign body : Code) (enc : α → List Value) (V : List α → Blks) (RY : α → Y → Regs) (NB : α → Y → Blks) (Stp : Code → List α → Blks → Prop) (Iv : List α → Prop) : Prop where
  iv0 : Iv []
  names : ∀ pre, (V pre).map (·.1) = (V []).map (·.1)
  cells : ∀ pre b o, (b, o) ∈ V pre → o.isCells = true
  cellsN : ∀ x y b o, (b, o) ∈ NB x y → o.isCells = true
  lens : ∀ x, (enc x).length = ps.length
  inps : ∀ p ∈ ps, p < n
  asg : ∀ l pre x W1, Mem W chg (V pre ++ n0) W1 → RunCR (some l) P (AsgQ n W1 (V pre) (RY x) (NB x)) n assign (putsR ps (enc x) r) [] W1 (V pre) []
  body : ∀ l pre x y W1, pre.length < N → Iv pre → Mem W chg (V pre ++ n0) W1 → InR l W1 ((V pre ++ NB x y).map (·.1)) → (∀ b, (∃ o, (b, o) ∈ chg ++ n0) ∨ b < W.heap.size → b ∉ (V pre ++ NB x y).map (·.1)) → RunCR (some l) P (BodyI (Iv (pre ++ [x])) (BodyX W1 ((V []).map (·.1)) ((NB x y).map (·.1)) (V (pre ++ [x])) (fun c V' => Stp c (pre ++ [x]) V'))) n body (RY x y) [] W1 (V pre ++ NB x y) []

variable {α Y : Type} {N : Nat} {n0 : Blks} {ps : List Nat} {assign body : Code} {enc : α → List Value} {V : List α → Blks} {RY : α → Y → Regs} {NB : α → Y → Blks} {Stp : Code → List α → Blks → Prop} {Iv : List α → Prop}

theorem RangeOk.lt (H : RangeOk P n N r W chg n0 ps assign body enc V RY NB Stp Iv) {w : World} (s0 : Mem W chg (V [] ++ n0) w) : ∀ pre b o, (b, o) ∈ chg ++ (V pre ++ n0) → b < w.heap.size := fun pre b o hb => by
  rcases List.mem_append.1 hb with hb | hb
  · exact s0.lt_new (List.mem_append.2 (.inl hb))
  · rcases List.mem_append.1 hb with hb | hb
    · have : b ∈ (V pre).map (·.1) := mem_names.2 ⟨o, hb⟩
      rw [H.names pre] at this
      obtain ⟨o2, h2⟩ := mem_names.1 this
      exact s0.lt_new (List.mem_append.2 (.inr (List.mem_append.2 (.inl h2))))
    · exact s0.lt_new (List.mem_append.2 (.inr (List.mem_append.2 (.inr hb))))
/-- What is known of the memory from round to round. -/
def RI (W : World) (chg n0 : Blks) (V : List α → Blks) (B : Nat) (pre : List α) (W' : World) : Prop := Mem W chg (V pre ++ n0) W' ∧ B ≤ W'.heap.size
/-- What is known behind a round that leaves the loop. -/
def RIx (W : World) (chg n0 : Blks) (nv : List Nat) (Stp : Code → List α → Blks → Prop) (B : Nat) (c : Code) (pre : List α) (W' : World) : Prop := ∃ V', V'.map (·.1) = nv ∧ Stp c pre V' ∧ Mem W chg (V' ++ n0) W' ∧ B ≤ W'.heap.size
def RJ (W : World) (chg n0 : Blks) (V : List α → Blks) (Iv : List α → Prop) (B : Nat) (pre : List α) (W' : World) : Prop := RI W chg n0 V B pre W' ∧ Iv pre
theorem RangeOk.own (H : RangeOk P n N r W chg n0 ps assign body enc V RY NB Stp Iv) {w : World} (s0 : Mem W chg (V [] ++ n0) w) : OwnFrom w.heap.size (RI W chg n0 V w.heap.size) := fun pre _ _ _ hI hgr hr =>
  ⟨hI.1.turned hgr (fun k e => (hr k e).1) (H.lt s0 pre) s0.size, Nat.le_trans hI.2 hgr.size⟩
theorem RangeOk.ownJ (H : RangeOk P n N r W chg n0 ps assign body enc V RY NB Stp Iv) {w : World} (s0 : Mem W chg (V [] ++ n0) w) : OwnFrom w.heap.size (RJ W chg n0 V Iv w.heap.size) := fun pre _ _ _ hI hgr hr => ⟨H.own s0 pre _ _ _ hI.1 hgr hr, hI.2⟩
theorem RangeOk.ownX (H : RangeOk P n N r W chg n0 ps assign body enc V RY NB Stp Iv) {w : World} (s0 : Mem W chg (V [] ++ n0) w) (c : Code) : OwnFrom w.heap.size (RIx W chg n0 ((V []).map (·.1)) Stp w.heap.size c) := fun pre _ _ _ hI hgr hr => by
  obtain ⟨V', h1, h2, h3, h4⟩ := hI
  refine ⟨V', h1, h2, h3.turned hgr (fun k e => (hr k e).1) (fun b o hb => ?_) s0.size, Nat.le_trans h4 hgr.size⟩
  rcases List.mem_append.1 hb with hb | hb
  · exact H.lt s0 [] b o (List.mem_append.2 (.inl hb))
  · rcases List.mem_append.1 hb with hb | hb
    · have : b ∈ V'.map (·.1) := mem_names.2 ⟨o, hb⟩
      rw [h1] at this
      obtain ⟨o2, h2⟩ := mem_names.1 this
      exact H.lt s0 [] b o2 (List.mem_append.2 (.inr (List.mem_append.2 (.inl h2))))
    · exact H.lt s0 [] b o (List.mem_append.2 (.inr (List.mem_append.2 (.inr hb))))
theorem RangeOk.ownA (H : RangeOk P n N r W chg n0 ps assign body enc V RY NB Stp Iv) {B : Nat} (x : α) (a' : Act) : OwnFrom B (fun (_ : Unit) W' => ∃ y, Held n B (RY x y) (NB x y) a' W') := fun _ A C row hI hgr hr => by
  obtain ⟨y, h⟩ := hI
  refine ⟨y, h.size, h.agree, h.defers, fun b o hb => ?_, h.once⟩
  obtain ⟨h1, h2⟩ := h.held b o hb
  refine ⟨h1, ?_⟩
  rw [hgr.block b (Array.getElem?_eq_some_iff.1 h2).1 (fun e => ?_)]
  · exact h2
  · obtain ⟨_, o2, h3, h4⟩ := hr b e.symm
    rw [h2] at h3
    cases h3
    rw [H.cellsN x y b o hb] at h4
    cases h4
theorem keepsFrom_mem {w w' : World} {B : Nat} {V : Blks} (h : Mem w V [] w') (hv : ∀ b o, (b, o) ∈ V → b < B ∨ ∃ o', w.heap[b]? = some o' ∧ o'.isCells = true) : KeepsFrom B w w' :=
  ⟨h.size, fun k o hB hk ho => by
    rw [h.old k (Array.getElem?_eq_some_iff.1 hk).1 (fun o2 ho2 => ?_)]
    · exact hk
    · rcases hv k o2 ho2 with h1 | ⟨o3, h3, h4⟩
      · omega
      · rw [hk] at h3; cases h3; rw [ho] at h4; cases h4⟩
theorem RangeOk.asgW (H : RangeOk P n N r W chg n0 ps assign body enc V RY NB Stp Iv) {a : Act} {w : World} (s : St n r ds W chg (V [] ++ n0) a w) (l : Nat) (pre : List α) (x : α) (W1 : World) (K : Act → World → Prop) (hI : RI W chg n0 V w.heap.size pre W1)
    (hK : ∀ a' W', KeepsFrom w.heap.size W1 W' → KpX w.heap.size ((V []).map (·.1)) W1 W' → RI W chg n0 V w.heap.size pre W' → (∃ y, Held n w.heap.size (RY x y) (NB x y) a' W') → K a' W') :
    assign.wpIn ((Fr none).inRound l) 7 P (Exit.then K (fun _ _ _ => False)) { tmps := (ps.toArray.zip (enc x).toArray).foldl (fun t (p, v) => t.setIfInBounds p v) a.tmps, defers := [] } W1 := by
  have hp := putsR_agree ps (enc x) a.tmps r (fun p hp => by rw [s.size]; exact H.inps p hp) (fun u v hu => s.agree u v hu)
  have e : (ps.toArray.zip (enc x).toArray).foldl (fun t (pv : Nat × Value) => t.setIfInBounds pv.1 pv.2) a.tmps = (ps.zip (enc x)).foldl (fun t (pv : Nat × Value) => t.setIfInBounds pv.1 pv.2) a.tmps := by
    rw [← Array.foldl_toList, Array.toList_zip]
  have hst : Mem W1 (V pre) [] W1 := ⟨rfl, rfl, rfl, Nat.le_refl _, fun _ _ _ => rfl, fun b o hb => ⟨hI.1.lt_new (List.mem_append.2 (.inr (List.mem_append.2 (.inl hb)))), (hI.1.newd b o (List.mem_append.2 (.inl hb))).2⟩, fun _ _ hb => (by cases hb), by
    have := hI.1.once
    rw [List.map_append, List.map_append, List.nodup_append] at this
    simpa using (List.nodup_append.1 this.2.1).1⟩
  have hr := H.asg l pre x W1 hI.1 { tmps := (ps.zip (enc x)).foldl (fun t (pv : Nat × Value) => t.setIfInBounds pv.1 pv.2) a.tmps, defers := [] } W1 ⟨by rw [hp.2]; exact s.size, fun u v hu => hp.1 u v hu, rfl, hst⟩
  show assign.wpIn (Fr (some l)) 7 P _ { tmps := (ps.toArray.zip (enc x).toArray).foldl (fun t (pv : Nat × Value) => t.setIfInBounds pv.1 pv.2) a.tmps, defers := [] } W1
  rw [e]
  refine Go.wpIn_mono (wpIn_any hr) ?_
  intro e a2 w2 hq
  cases e with
  | normal =>
    obtain ⟨y, s2⟩ := hq
    have hlt : ∀ b o, (b, o) ∈ V pre → b < w.heap.size := fun b o hb => H.lt s.mem pre b o (List.mem_append.2 (.inr (List.mem_append.2 (.inl hb))))
    refine hK a2 w2 (keepsFrom_mem s2.mem.drop (fun b o hb => .inl (hlt b o hb))) (fun k hk hne => s2.mem.old k (Nat.lt_of_lt_of_le hk hI.2) (fun o ho => hne (by rw [← H.names pre]; exact mem_names.2 ⟨o, ho⟩))) ⟨?_, Nat.le_trans hI.2 s2.mem.size⟩ ⟨y, s2.size, s2.agree, s2.defers, fun b o hb => ?_, ?_⟩
    · have h2 := Mem.round hI.1 s2.mem.drop rfl
      exact h2
    · have := s2.mem.newd b o hb
      exact ⟨Nat.le_trans hI.2 this.1, this.2⟩
    · have := s2.mem.once
      rw [List.map_append, List.nodup_append] at this
      exact this.2.1
  | exit id => exact hq.elim
  | goto l => exact hq.elim
  | ret => exact hq.elim
  | panic c => exact hq.elim
  | outgrown => exact hq.elim
theorem RangeOk.round (H : RangeOk P n N r W chg n0 ps assign body enc V RY NB Stp Iv) {a : Act} {w : World} (s : St n r ds W chg (V [] ++ n0) a w) (l : Nat) (pre : List α) (x : α) (a' : Act) (W1 : World) (hl : w.heap.size ≤ l) (hrec : ∃ x, W1.heap[l]? = some (.loop x))
    (hI : RI W chg n0 V w.heap.size pre W1) (hA : ∃ y, Held n w.heap.size (RY x y) (NB x y) a' W1) (hlen : pre.length < N) (hiv : Iv pre) :
    body.wpIn ((Fr none).inRound l) 7 P (ownPostG w.heap.size (KpX w.heap.size ((V []).map (·.1))) (RJ W chg n0 V Iv w.heap.size) (RIx W chg n0 ((V []).map (·.1)) Stp w.heap.size) (pre ++ [x]) W1) a' W1 := by
  obtain ⟨y, hh⟩ := hA
  have hlt : ∀ b o, (b, o) ∈ chg ++ (V pre ++ n0) → b < w.heap.size := H.lt s.mem pre
  have hVlt : ∀ b o, (b, o) ∈ V pre → b < w.heap.size := fun b o hb => hlt b o (List.mem_append.2 (.inr (List.mem_append.2 (.inl hb))))
  have hV' : ∀ (V' : Blks), V'.map (·.1) = (V []).map (·.1) → ∀ b o, (b, o) ∈ V' → b < w.heap.size := fun V' hv b o hb => by
    have : b ∈ V'.map (·.1) := mem_names.2 ⟨o, hb⟩
    rw [hv, ← H.names pre] at this
    obtain ⟨o2, h2⟩ := mem_names.1 this
    exact hVlt b o2 h2
  have hB' : ∀ (B : Blks), B.map (·.1) = (NB x y).map (·.1) → ∀ b o, (b, o) ∈ B → w.heap.size ≤ b ∧ ∃ o', W1.heap[b]? = some o' ∧ o'.isCells = true := fun B hb b o h => by
    have : b ∈ B.map (·.1) := mem_names.2 ⟨o, h⟩
    rw [hb] at this
    obtain ⟨o2, h2⟩ := mem_names.1 this
    obtain ⟨h3, h4⟩ := hh.held b o2 h2
    exact ⟨h3, o2, h4, H.cellsN x y b o2 h2⟩
  have hst : Mem W1 (V pre ++ NB x y) [] W1 := ⟨rfl, rfl, rfl, Nat.le_refl _, fun _ _ _ => rfl, fun b o hb => by
      rcases List.mem_append.1 hb with hb | hb
      · exact ⟨hI.1.lt_new (List.mem_append.2 (.inr (List.mem_append.2 (.inl hb)))), (hI.1.newd b o (List.mem_append.2 (.inl hb))).2⟩
      · have h1 := (hh.held b o hb).2
        exact ⟨(Array.getElem?_eq_some_iff.1 h1).1, h1⟩, fun _ _ hb => (by cases hb), by
      have h1 := hI.1.once
      rw [List.map_append, List.map_append, List.nodup_append] at h1
      rw [List.append_nil, List.map_append, List.nodup_append]
      refine ⟨(List.nodup_append.1 h1.2.1).1, hh.once, fun b hb c hc e => ?_⟩
      subst e
      obtain ⟨o, ho⟩ := mem_names.1 hb
      obtain ⟨o2, ho2⟩ := mem_names.1 hc
      have := hVlt b o ho
      have := (hh.held b o2 ho2).1
      omega⟩
  have hInR : InR l W1 ((V pre ++ NB x y).map (·.1)) := ⟨hrec, fun hc => by
    obtain ⟨o, ho⟩ := mem_names.1 hc
    rcases List.mem_append.1 ho with ho | ho
    · have := hVlt l o ho; omega
    · obtain ⟨q, hq⟩ := hrec
      have h1 := (hh.held l o ho).2
      rw [hq] at h1
      cases h1
      have := H.cellsN x y l _ ho
      cases this⟩
  have hAp : ∀ b, (∃ o, (b, o) ∈ chg ++ n0) ∨ b < W.heap.size → b ∉ (V pre ++ NB x y).map (·.1) := fun b hb hc => by
    obtain ⟨o, ho⟩ := mem_names.1 hc
    have hnd := hI.1.once
    rcases List.mem_append.1 ho with ho | ho
    · rcases hb with ⟨o2, hb⟩ | hb
      · rw [List.map_append, List.map_append, List.nodup_append] at hnd
        rcases List.mem_append.1 hb with hb | hb
        · exact hnd.2.2 b (mem_names.2 ⟨o2, hb⟩) b (List.mem_append.2 (.inl (mem_names.2 ⟨o, ho⟩))) rfl
        · exact (List.nodup_append.1 hnd.2.1).2.2 b (mem_names.2 ⟨o, ho⟩) b (mem_names.2 ⟨o2, hb⟩) rfl
      · have := (hI.1.newd b o (List.mem_append.2 (.inl ho))).1
        omega
    · have h1 := (hh.held b o ho).1
      rcases hb with ⟨o2, hb⟩ | hb
      · have : b < w.heap.size := by
          rcases List.mem_append.1 hb with hb | hb
          · exact hlt b o2 (List.mem_append.2 (.inl hb))
          · exact hlt b o2 (List.mem_append.2 (.inr (List.mem_append.2 (.inr hb))))
        omega
      · have := s.mem.size
        omega
  have hr := H.body l pre x y W1 hlen hiv hI.1 hInR hAp a' W1 ⟨hh.size, hh.agree, hh.defers, hst⟩
  show body.wpIn (Fr (some l)) 7 P _ a' W1
  have hBout : ∀ (B : Blks), B.map (·.1) = (NB x y).map (·.1) → ∀ b ∈ B.map (·.1), W.heap.size ≤ b ∧ ∀ o, (b, o) ∉ chg ++ (V pre ++ n0) := fun B hb b hbm => by
    obtain ⟨o, ho⟩ := mem_names.1 hbm
    have h1 := (hB' B hb b o ho).1
    exact ⟨Nat.le_trans s.mem.size h1, fun o2 h2 => by have := hlt b o2 h2; omega⟩
  have hkf : ∀ (V' B : Blks) (w2 : World), V'.map (·.1) = (V []).map (·.1) → B.map (·.1) = (NB x y).map (·.1) → Mem W1 (V' ++ B) [] w2 → KeepsFrom w.heap.size W1 w2 := fun V' B w2 hv hb hm =>
    keepsFrom_mem hm (fun b o ho => by
      rcases List.mem_append.1 ho with ho | ho
      · exact .inl (hV' V' hv b o ho)
      · exact .inr (hB' B hb b o ho).2)
  refine Go.wpIn_mono (wpIn_any hr) ?_
  intro e a2 w2 hq
  cases e with
  | normal =>
    obtain ⟨hiv2, B, hb, hm⟩ := hq
    refine ⟨hkf _ B w2 (H.names _) hb hm, fun k hk hne => hm.old k (Nat.lt_of_lt_of_le hk hI.2) (fun o ho => ?_), ⟨hI.1.roundN hm (by rw [H.names, H.names pre]) (hBout B hb), Nat.le_trans hI.2 hm.size⟩, hiv2⟩
    rcases List.mem_append.1 ho with ho | ho
    · exact hne (by rw [← H.names (pre ++ [x])]; exact mem_names.2 ⟨o, ho⟩)
    · have := (hB' B hb k o ho).1; omega
  | exit id =>
    obtain ⟨V', B, hv, hb, hst2, hm⟩ := hq
    exact ⟨hkf V' B w2 hv hb hm, V', hv, hst2, hI.1.roundN hm (by rw [hv, H.names pre]) (hBout B hb), Nat.le_trans hI.2 hm.size⟩
  | ret =>
    obtain ⟨V', B, hv, hb, hst2, hm⟩ := hq
    exact ⟨hkf V' B w2 hv hb hm, V', hv, hst2, hI.1.roundN hm (by rw [hv, H.names pre]) (hBout B hb), Nat.le_trans hI.2 hm.size⟩
  | goto l => exact hq.elim
  | panic c => exact hq.elim
  | outgrown => exact hq.elim
theorem kpX_trans {B : Nat} {nm : List Nat} {A C D : World} (h1 : KpX B nm A C) (h2 : KpX B nm C D) : KpX B nm A D := fun k hk hne => (h2 k hk hne).trans (h1 k hk hne)
theorem kpX_put {B : Nat} {nm : List Nat} (A : World) (l : Nat) (o' : Obj) (h : B ≤ l) : KpX B nm A (A.putObj l o') := fun k hk _ => World.putObj_heap_other (by omega)
/-- 'for x := range seq', of a function's own code. -/
theorem RunC.rangeH' {g : Operand} {gf : Nat} {lb : Array Value} {S Sp : List α → Prop} (H : RangeOk P n N r W chg n0 ps assign body enc V RY NB Stp Iv)
    (hg : rev r g = some (.func (.func gf) #[] lb)) (he : Enters P gf) (hn : Pick (V [] ++ n0) news)
    (hseq : ∀ w, Mem W chg (V [] ++ n0) w → SeqStopsK (Fr none) 8 P gf lb (fun x => (enc x).toArray) (KpX w.heap.size ((V []).map (·.1))) S Sp N w)
    (h : ∀ xs D, S xs → Iv xs → RunE Q n .normal r ({ target := .collected D, args := #[] } :: ds) W chg ((D, .deferred (some [])) :: (V xs ++ n0)))
    (h2 : ∀ c pre V' D, Sp pre → V'.map (·.1) = (V []).map (·.1) → Stp c pre V' → RunC P Q n c r ({ target := .collected D, args := #[] } :: ds) W chg ((D, .deferred (some [])) :: (V' ++ n0))) :
    RunC P Q n (.rangeFunc g ps.toArray assign body) r ds W chg news := fun a w s => by
  have s' : St n r ds W chg (V [] ++ n0) a w := ⟨s.size, s.agree, s.defers, s.mem.pick hn⟩
  have mark : ∀ (V' : Blks) (D : Nat) (W' : World), V'.map (·.1) = (V []).map (·.1) → w.heap.size ≤ D → Mem W chg (V' ++ n0) W' → W'.heap[D]? = some (.deferred (some [])) → Mem W chg ((D, .deferred (some [])) :: (V' ++ n0)) W' := fun V' D W' hv hD hI hK => by
    have hlt : ∀ b o, (b, o) ∈ chg ++ (V' ++ n0) → b < w.heap.size := fun b o hb => by
      rcases List.mem_append.1 hb with hb | hb
      · exact H.lt s'.mem [] b o (List.mem_append.2 (.inl hb))
      · rcases List.mem_append.1 hb with hb | hb
        · have : b ∈ V'.map (·.1) := mem_names.2 ⟨o, hb⟩
          rw [hv] at this
          obtain ⟨o2, h2⟩ := mem_names.1 this
          exact H.lt s'.mem [] b o2 (List.mem_append.2 (.inr (List.mem_append.2 (.inl h2))))
        · exact H.lt s'.mem [] b o (List.mem_append.2 (.inr (List.mem_append.2 (.inr hb))))
    refine { hI with newd := fun b o hb => ?_, once := ?_ }
    · rcases List.mem_cons.1 hb with hb | hb
      · cases hb; exact ⟨Nat.le_trans s'.mem.size hD, hK⟩
      · exact hI.newd b o hb
    · have hnd := hI.once
      rw [List.map_append, List.nodup_append] at hnd ⊢
      refine ⟨hnd.1, ?_, ?_⟩
      · rw [List.map_cons, List.nodup_cons]
        refine ⟨fun hm => ?_, hnd.2.1⟩
        obtain ⟨o, ho⟩ := mem_names.1 hm
        have := hlt D o (List.mem_append.2 (.inr ho))
        omega
      · intro b hb c hc
        rw [List.map_cons, List.mem_cons] at hc
        rcases hc with rfl | hc
        · obtain ⟨o, ho⟩ := mem_names.1 hb
          have := hlt b o (List.mem_append.2 (.inl ho))
          intro e; subst e; omega
        · exact hnd.2.2 b hb c hc
  refine (wpIn_wide (n := 9)).1 ?_
  show Code.wpIn (Fr none) 9 P _ Q a w
  exact wpIn_rangeFunc_ownH (F := Fr none) (n := 9) rfl (by decide) (s.agree.eval hg) trivial he (hseq w s'.mem) kpX_trans (fun A l o o' hl _ _ _ => kpX_put A l o' hl) (Below.refl _ w) (fun x => by simp [H.lens x])
    (RJ W chg n0 V Iv w.heap.size) (RIx W chg n0 ((V []).map (fun x : Nat × Obj => x.1)) Stp w.heap.size) (H.ownJ s'.mem) (H.ownX s'.mem) ⟨⟨s'.mem, Nat.le_refl _⟩, H.iv0⟩ (fun x a' W' => ∃ y, Held n w.heap.size (RY x y) (NB x y) a' W') (fun x a' => H.ownA x a')
    (fun l pre x W1 K hI hK => H.asgW s' l pre x W1 K hI.1 (fun a' W' h1 h2 h3 h4 => hK a' W' h1 h2 ⟨h3, hI.2⟩ h4)) (fun l pre x a' W1 hl hrec hI hA hlen => H.round s' l pre x a' W1 hl hrec hI.1 hA hlen hI.2)
    (fun D xs W' hD hS hI hK => h xs D hS hI.2 _ W' ⟨s.size, s.agree, by rw [← s.defers], mark _ D W' (H.names xs) hD hI.1.1 hK⟩)
    (fun D c pre W' hD hSp hI hK => by
      obtain ⟨V', hv, hst, hm, _⟩ := hI
      exact (wpIn_wide (n := 9)).2 (h2 c pre V' D hSp hv hst _ W' ⟨s.size, s.agree, by rw [← s.defers], mark V' D W' hv hD hm hK⟩))
/-- In a round of another one. -/
theorem RunCR.rangeN' {l : Nat} {g : Operand} {gf : Nat} {lb : Array Value} {S Sp : List α → Prop} (H : RangeOk P n N r W chg n0 ps assign body enc V RY NB Stp Iv) {nm : List Nat} (hL : InR l W nm) (hnm : chg.map (·.1) = nm)
    (hg : rev r g = some (.func (.func gf) #[] lb)) (he : Enters P gf) (hn : Pick (V [] ++ n0) news)
    (hseq : ∀ w, Mem W chg (V [] ++ n0) w → SeqStopsK (Fr none) 8 P gf lb (fun x => (enc x).toArray) (KpX w.heap.size ((V []).map (·.1))) S Sp N w)
    (h : ∀ xs, S xs → Iv xs → RunE Q n .normal r ds W chg (V xs ++ n0))
    (h2 : ∀ c pre V', Sp pre → V'.map (·.1) = (V []).map (·.1) → Stp c pre V' → RunCR (some l) P Q n c r ds W chg (V' ++ n0)) :
    RunCR (some l) P Q n (.rangeFunc g ps.toArray assign body) r ds W chg news := fun a w s => by
  have s' : St n r ds W chg (V [] ++ n0) a w := ⟨s.size, s.agree, s.defers, s.mem.pick hn⟩
  obtain ⟨q, hq⟩ := hL.rec'
  exact wpIn_rangeFunc_ownN (F := Fr (some l)) (n := 9) (l₀ := l) (r₀ := q) rfl (s.mem.old_at hq (fun o ho => hL.notin (by rw [← hnm]; exact mem_names.2 ⟨o, ho⟩))) (by decide) (s.agree.eval hg) trivial he (SeqStopsK.inRound l (hseq w s'.mem)) kpX_trans (fun A l o o' hl _ _ _ => kpX_put A l o' hl) (Below.refl _ w) (fun x => by simp [H.lens x])
    (RJ W chg n0 V Iv w.heap.size) (RIx W chg n0 ((V []).map (fun x : Nat × Obj => x.1)) Stp w.heap.size) (H.ownJ s'.mem) (H.ownX s'.mem) ⟨⟨s'.mem, Nat.le_refl _⟩, H.iv0⟩ (fun x a' W' => ∃ y, Held n w.heap.size (RY x y) (NB x y) a' W') (fun x a' => H.ownA x a')
    (fun l pre x W1 K hI hK => H.asgW s' l pre x W1 K hI.1 (fun a' W' h1 h2 h3 h4 => hK a' W' h1 h2 ⟨h3, hI.2⟩ h4)) (fun l pre x a' W1 hl hrec hI hA hlen => H.round s' l pre x a' W1 hl hrec hI.1 hA hlen hI.2)
    (fun xs W' hS hI => h xs hS hI.2 _ W' ⟨s.size, s.agree, s.defers, hI.1.1⟩)
    (fun c pre W' hSp hI => by
      obtain ⟨V', hv, hst, hm, _⟩ := hI
      exact h2 c pre V' hSp hv hst _ W' ⟨s.size, s.agree, s.defers, hm⟩)
/-- A range over a function, of a function's own code: the blocks V turn from round to round; the variables of a round are registers, or lie in blocks NB. -/
theorem RunC.rangeH {α Y : Type} {g : Operand} {gf : Nat} {lb : Array Value} {S Sp : List α → Prop} {ps : List Nat} {assign body : Code} {q : Regs} {N : Nat} (n0 : Blks) (enc : α → List Value) (V : List α → Blks) (RY : α → Y → Regs → Regs) (NB : α → Y → Blks) (Stp : Code → List α → Blks → Prop)
    (_hs : Sub q r) (hn : Pick (V [] ++ n0) news) (hnm : ∀ pre, (V pre).map (·.1) = (V []).map (·.1)) (hcl : ∀ pre b o, (b, o) ∈ V pre → o.isCells = true) (hcn : ∀ x y b o, (b, o) ∈ NB x y → o.isCells = true)
    (hlen : ∀ x, (enc x).length = ps.length) (hin : (ps.all fun p => Nat.ble (p + 1) n) = true) (hg : rev r g = some (.func (.func gf) #[] lb)) (he : Enters P gf)
    (hseq : ∀ w, Mem W chg (V [] ++ n0) w → SeqStopsK (Fr none) 8 P gf lb (fun x => (enc x).toArray) (KpX w.heap.size ((V []).map (·.1))) S Sp N w)
    (hasg : ∀ l pre x W1, Mem W chg (V pre ++ n0) W1 → RunCR (some l) P (AsgQ n W1 (V pre) (fun y => RY x y q) (NB x)) n assign (putsR ps (enc x) r) [] W1 (V pre) [])
    (hbody : ∀ l pre x y W1, pre.length < N → Mem W chg (V pre ++ n0) W1 → InR l W1 ((V pre ++ NB x y).map (·.1)) → (∀ b, (∃ o, (b, o) ∈ chg ++ n0) ∨ b < W.heap.size → b ∉ (V pre ++ NB x y).map (·.1)) →
      RunCR (some l) P (BodyX W1 ((V []).map (·.1)) ((NB x y).map (·.1)) (V (pre ++ [x])) (fun c V' => Stp c (pre ++ [x]) V')) n body (RY x y q) [] W1 (V pre ++ NB x y) [])
    (h : ∀ xs D, S xs → RunE Q n .normal r ({ target := .collected D, args := #[] } :: ds) W chg ((D, .deferred (some [])) :: (V xs ++ n0)))
    (h2 : ∀ c pre V' D, Sp pre → V'.map (·.1) = (V []).map (·.1) → Stp c pre V' → RunC P Q n c r ({ target := .collected D, args := #[] } :: ds) W chg ((D, .deferred (some [])) :: (V' ++ n0))) :
    RunC P Q n (.rangeFunc g ps.toArray assign body) r ds W chg news :=
  RunC.rangeH' (RY := fun x y => RY x y q) (Iv := fun _ => True) ⟨trivial, hnm, hcl, hcn, hlen, fun p hp => Nat.le_of_ble_eq_true (List.all_eq_true.1 hin p hp), hasg, fun l pre x y W1 h1 _ h2 h3 h4 => (hbody l pre x y W1 h1 h2 h3 h4).bodyT⟩ hg he hn hseq (fun xs D hS _ => h xs D hS) h2
/-- With something that is so of what came before. -/
theorem RunC.rangeHI {α Y : Type} {g : Operand} {gf : Nat} {lb : Array Value} {S Sp : List α → Prop} {ps : List Nat} {assign body : Code} {q : Regs} {N : Nat} (n0 : Blks) (enc : α → List Value) (V : List α → Blks) (RY : α → Y → Regs → Regs) (NB : α → Y → Blks) (Stp : Code → List α → Blks → Prop) (Iv : List α → Prop) (iv0 : Iv [])
    (_hs : Sub q r) (hn : Pick (V [] ++ n0) news) (hnm : ∀ pre, (V pre).map (·.1) = (V []).map (·.1)) (hcl : ∀ pre b o, (b, o) ∈ V pre → o.isCells = true) (hcn : ∀ x y b o, (b, o) ∈ NB x y → o.isCells = true)
    (hlen : ∀ x, (enc x).length = ps.length) (hin : (ps.all fun p => Nat.ble (p + 1) n) = true) (hg : rev r g = some (.func (.func gf) #[] lb)) (he : Enters P gf)
    (hseq : ∀ w, Mem W chg (V [] ++ n0) w → SeqStopsK (Fr none) 8 P gf lb (fun x => (enc x).toArray) (KpX w.heap.size ((V []).map (·.1))) S Sp N w)
    (hasg : ∀ l pre x W1, Mem W chg (V pre ++ n0) W1 → RunCR (some l) P (AsgQ n W1 (V pre) (fun y => RY x y q) (NB x)) n assign (putsR ps (enc x) r) [] W1 (V pre) [])
    (hbody : ∀ l pre x y W1, pre.length < N → Iv pre → Mem W chg (V pre ++ n0) W1 → InR l W1 ((V pre ++ NB x y).map (·.1)) → (∀ b, (∃ o, (b, o) ∈ chg ++ n0) ∨ b < W.heap.size → b ∉ (V pre ++ NB x y).map (·.1)) →
      RunCR (some l) P (BodyI (Iv (pre ++ [x])) (BodyX W1 ((V []).map (·.1)) ((NB x y).map (·.1)) (V (pre ++ [x])) (fun c V' => Stp c (pre ++ [x]) V'))) n body (RY x y q) [] W1 (V pre ++ NB x y) [])
    (h : ∀ xs D, S xs → Iv xs → RunE Q n .normal r ({ target := .collected D, args := #[] } :: ds) W chg ((D, .deferred (some [])) :: (V xs ++ n0)))
    (h2 : ∀ c pre V' D, Sp pre → V'.map (·.1) = (V []).map (·.1) → Stp c pre V' → RunC P Q n c r ({ target := .collected D, args := #[] } :: ds) W chg ((D, .deferred (some [])) :: (V' ++ n0))) :
    RunC P Q n (.rangeFunc g ps.toArray assign body) r ds W chg news :=
  RunC.rangeH' (RY := fun x y => RY x y q) (Iv := Iv) ⟨iv0, hnm, hcl, hcn, hlen, fun p hp => Nat.le_of_ble_eq_true (List.all_eq_true.1 hin p hp), hasg, hbody⟩ hg he hn hseq h h2
theorem RunCR.rangeN {α Y : Type} {l : Nat} {g : Operand} {gf : Nat} {lb : Array Value} {S Sp : List α → Prop} {ps : List Nat} {assign body : Code} {q : Regs} {N : Nat} (n0 : Blks) (enc : α → List Value) (V : List α → Blks) (RY : α → Y → Regs → Regs) (NB : α → Y → Blks) (Stp : Code → List α → Blks → Prop) {nm : List Nat} (hL : InR l W nm) (hcm : chg.map (·.1) = nm)
    (_hs : Sub q r) (hn : Pick (V [] ++ n0) news) (hnm : ∀ pre, (V pre).map (·.1) = (V []).map (·.1)) (hcl : ∀ pre b o, (b, o) ∈ V pre → o.isCells = true) (hcn : ∀ x y b o, (b, o) ∈ NB x y → o.isCells = true)
    (hlen : ∀ x, (enc x).length = ps.length) (hin : (ps.all fun p => Nat.ble (p + 1) n) = true) (hg : rev r g = some (.func (.func gf) #[] lb)) (he : Enters P gf)
    (hseq : ∀ w, Mem W chg (V [] ++ n0) w → SeqStopsK (Fr none) 8 P gf lb (fun x => (enc x).toArray) (KpX w.heap.size ((V []).map (·.1))) S Sp N w)
    (hasg : ∀ l pre x W1, Mem W chg (V pre ++ n0) W1 → RunCR (some l) P (AsgQ n W1 (V pre) (fun y => RY x y q) (NB x)) n assign (putsR ps (enc x) r) [] W1 (V pre) [])
    (hbody : ∀ l pre x y W1, pre.length < N → Mem W chg (V pre ++ n0) W1 → InR l W1 ((V pre ++ NB x y).map (·.1)) → (∀ b, (∃ o, (b, o) ∈ chg ++ n0) ∨ b < W.heap.size → b ∉ (V pre ++ NB x y).map (·.1)) →
      RunCR (some l) P (BodyX W1 ((V []).map (·.1)) ((NB x y).map (·.1)) (V (pre ++ [x])) (fun c V' => Stp c (pre ++ [x]) V')) n body (RY x y q) [] W1 (V pre ++ NB x y) [])
    (h : ∀ xs, S xs → RunE Q n .normal r ds W chg (V xs ++ n0))
    (h2 : ∀ c pre V', Sp pre → V'.map (·.1) = (V []).map (·.1) → Stp c pre V' → RunCR (some l) P Q n c r ds W chg (V' ++ n0)) :
    RunCR (some l) P Q n (.rangeFunc g ps.toArray assign body) r ds W chg news :=
  RunCR.rangeN' (RY := fun x y => RY x y q) (Iv := fun _ => True) ⟨trivial, hnm, hcl, hcn, hlen, fun p hp => Nat.le_of_ble_eq_true (List.all_eq_true.1 hin p hp), hasg, fun l pre x y W1 h1 _ h2 h3 h4 => (hbody l pre x y W1 h1 h2 h3 h4).bodyT⟩ hL hcm hg he hn hseq (fun xs hS _ => h xs hS) h2
/-- What lay before a loop lies in its rounds. -/
theorem Mem.flat {w W1 : World} {n1 c1 nw : Blks} (hI : Mem W [] n1 W1) (hm : Mem W1 c1 nw w) (hc : ∀ b, b < W.heap.size → b ∉ c1.map (·.1)) : Mem W [] [] w :=
  ⟨hm.os.trans hI.os, hm.tape.trans hI.tape, hm.output.trans hI.output, Nat.le_trans hI.size hm.size, fun k hk _ => (hm.old k (Nat.lt_of_lt_of_le hk hI.size) (fun o ho => hc k hk (mem_names.2 ⟨o, ho⟩))).trans (hI.old k hk (by simp)), fun _ _ h => (by cases h), fun _ _ h => (by cases h), by simp⟩

/-! ### Leaving a function that holds loops -/
def markD (D : Nat) : Deferred := { target := .collected D, args := #[] }
def markB (D : Nat) : Nat × Obj := (D, .deferred (some []))
theorem leavesM_marks {fn : Func} {R : Ending → World → Prop} {tl : List Deferred} {t : Array Value} {news2 : Blks} (hend : ∀ w, Mem W chg news2 w → LeavesInM Fence.wide 9 P fn t R tl .returning w) : ∀ (Ds : List Nat) (w : World), Mem W chg (Ds.map markB ++ news2) w → LeavesInM Fence.wide 9 P fn t R (Ds.map markD ++ tl) .returning w
  | [], w, hm => hend w hm
  | D :: Ds, w, hm => ⟨by simp, .inl ⟨D, _, rfl, run_takeDeferred (hm.newd D _ (List.mem_cons_self ..)).2, leavesM_marks hend Ds _ (hm.putNew _)⟩⟩
theorem leaves_nil {fn : Func} {R : Ending → World → Prop} {news2 : Blks} {v : Value} {a : Act} (hag : Agree a r) (hv : ResVs P r (chg ++ news2) fn v) (hR : ∀ w, Mem W chg news2 w → R (.returned v) w) : ∀ w, Mem W chg news2 w → LeavesInM Fence.wide 9 P fn a.tmps R [] .returning w := fun w hm =>
  ⟨v, hv.run hag (fun _ _ h => hm.at h), hR w hm⟩
theorem leaves_closure {fn : Func} {f : FuncId} {T : TypeId} {mis : Int → Value} {R : Ending → World → Prop} {news2 : Blks} {v : Value} {b : Nat} {a : Act} (hc : CatchesIn P f T mis) (he : Enters P f) (hag : Agree a r) (hv : ResVs P r (chg ++ news2) fn v) (hR : ∀ w, Mem W chg news2 w → R (.returned v) w) :
    ∀ w, Mem W chg news2 w → LeavesInM Fence.wide 9 P fn a.tmps R [{ target := .fn (.func f) #[.pointer (some ⟨b, 0, none⟩)], args := #[] }] .returning w := fun w hm => by
  refine ⟨by simp, .inr ⟨fun h => (by cases h), _, _, f, #[.pointer (some ⟨b, 0, none⟩)], rfl, by simp [invoke]; exact he _ _, fun _ _ => trivial, (hc.calm b w).mono ?_⟩⟩
  rintro e u w' ⟨⟨x, rfl⟩, rfl, hm'⟩
  have hm2 := hm.pass hm'
  exact ⟨v, hv.run hag (fun _ _ h => hm2.at h), hR _ hm2⟩
theorem leaves_plain {fn : Func} {f : FuncId} {T : TypeId} {mis : Int → Value} {R : Ending → World → Prop} {news2 : Blks} {v : Value} {b : Nat} {a : Act} (hc : CatchesIn P f T mis) (he : Enters P f) (hag : Agree a r) (hv : ResVs P r (chg ++ news2) fn v) (hR : ∀ w, Mem W chg news2 w → R (.returned v) w) :
    ∀ w, Mem W chg news2 w → LeavesInM Fence.wide 9 P fn a.tmps R [{ target := .fn (.func f) #[], args := #[.pointer (some ⟨b, 0, none⟩)] }] .returning w := fun w hm => by
  refine ⟨by simp, .inr ⟨fun h => (by cases h), _, _, f, #[.pointer (some ⟨b, 0, none⟩)], rfl, by simp [invoke]; exact he _ _, fun _ _ => trivial, (hc.calm b w).mono ?_⟩⟩
  rintro e u w' ⟨⟨x, rfl⟩, rfl, hm'⟩
  have hm2 := hm.pass hm'
  exact ⟨v, hv.run hag (fun _ _ h => hm2.at h), hR _ hm2⟩
/-- Leaving with marks, and nothing else. -/
theorem RunE.outM {fn : Func} {R : Ending → World → Prop} {v : Value} {news2 : Blks} (Ds : List Nat) (hp : Pick (Ds.map markB ++ news2) news) (hv : ResVs P r (chg ++ news2) fn v) (hR : ∀ w, Mem W chg news2 w → R (.returned v) w) :
    RunE (bodyPostM Fence.wide 9 P fn R) n .ret r (Ds.map markD ++ []) W chg news := fun a w s => by
  show LeavesInM _ _ _ _ _ _ a.defers _ w
  rw [s.defers]
  exact leavesM_marks (leaves_nil s.agree hv hR) Ds w (s.mem.pick hp)
theorem RunE.outM_fin {fn : Func} {R : Ending → World → Prop} {v : Value} {news2 : Blks} (Ds : List Nat) (hp : Pick (Ds.map markB ++ news2) news) (hv : ResVs P r (chg ++ news2) fn v) (hR : ∀ w, Mem W chg news2 w → R (.returned v) w) :
    RunE (bodyPostM Fence.wide 9 P fn R) n .normal r (Ds.map markD ++ []) W chg news := fun a w s => by
  show LeavesInM _ _ _ _ _ _ a.defers _ w
  rw [s.defers]
  exact leavesM_marks (leaves_nil s.agree hv hR) Ds w (s.mem.pick hp)
/-- Leaving with marks, and a deferred closure that recovers. -/
theorem RunE.outMC {fn : Func} {f : FuncId} {T : TypeId} {mis : Int → Value} {R : Ending → World → Prop} {v : Value} {b : Nat} {news2 : Blks} (Ds : List Nat) (hc : CatchesIn P f T mis) (he : Enters P f) (hp : Pick (Ds.map markB ++ news2) news) (hv : ResVs P r (chg ++ news2) fn v) (hR : ∀ w, Mem W chg news2 w → R (.returned v) w) :
    RunE (bodyPostM Fence.wide 9 P fn R) n .ret r (Ds.map markD ++ [{ target := .fn (.func f) #[.pointer (some ⟨b, 0, none⟩)], args := #[] }]) W chg news := fun a w s => by
  show LeavesInM _ _ _ _ _ _ a.defers _ w
  rw [s.defers]
  exact leavesM_marks (leaves_closure hc he s.agree hv hR) Ds w (s.mem.pick hp)
theorem RunE.outMC_fin {fn : Func} {f : FuncId} {T : TypeId} {mis : Int → Value} {R : Ending → World → Prop} {v : Value} {b : Nat} {news2 : Blks} (Ds : List Nat) (hc : CatchesIn P f T mis) (he : Enters P f) (hp : Pick (Ds.map markB ++ news2) news) (hv : ResVs P r (chg ++ news2) fn v) (hR : ∀ w, Mem W chg news2 w → R (.returned v) w) :
    RunE (bodyPostM Fence.wide 9 P fn R) n .normal r (Ds.map markD ++ [{ target := .fn (.func f) #[.pointer (some ⟨b, 0, none⟩)], args := #[] }]) W chg news := fun a w s => by
  show LeavesInM _ _ _ _ _ _ a.defers _ w
  rw [s.defers]
  exact leavesM_marks (leaves_closure hc he s.agree hv hR) Ds w (s.mem.pick hp)
/-- Leaving with marks, and a deferred function that recovers. -/
theorem RunE.outMD {fn : Func} {f : FuncId} {T : TypeId} {mis : Int → Value} {R : Ending → World → Prop} {v : Value} {b : Nat} {news2 : Blks} (Ds : List Nat) (hc : CatchesIn P f T mis) (he : Enters P f) (hp : Pick (Ds.map markB ++ news2) news) (hv : ResVs P r (chg ++ news2) fn v) (hR : ∀ w, Mem W chg news2 w → R (.returned v) w) :
    RunE (bodyPostM Fence.wide 9 P fn R) n .ret r (Ds.map markD ++ [{ target := .fn (.func f) #[], args := #[.pointer (some ⟨b, 0, none⟩)] }]) W chg news := fun a w s => by
  show LeavesInM _ _ _ _ _ _ a.defers _ w
  rw [s.defers]
  exact leavesM_marks (leaves_plain hc he s.agree hv hR) Ds w (s.mem.pick hp)
theorem RunE.outMD_fin {fn : Func} {f : FuncId} {T : TypeId} {mis : Int → Value} {R : Ending → World → Prop} {v : Value} {b : Nat} {news2 : Blks} (Ds : List Nat) (hc : CatchesIn P f T mis) (he : Enters P f) (hp : Pick (Ds.map markB ++ news2) news) (hv : ResVs P r (chg ++ news2) fn v) (hR : ∀ w, Mem W chg news2 w → R (.returned v) w) :
    RunE (bodyPostM Fence.wide 9 P fn R) n .normal r (Ds.map markD ++ [{ target := .fn (.func f) #[], args := #[.pointer (some ⟨b, 0, none⟩)] }]) W chg news := fun a w s => by
  show LeavesInM _ _ _ _ _ _ a.defers _ w
  rw [s.defers]
  exact leavesM_marks (leaves_plain hc he s.agree hv hR) Ds w (s.mem.pick hp)
theorem RunE.panMC {fn : Func} {f : FuncId} {T : TypeId} {mis : Int → Value} {v v0 x : Value} {b : Nat} {k : Int} {news' : Blks} (hc : CatchesIn P f T mis) (he : Enters P f) (hu : Upd news b (.cells #[x] T (0, 0)) (.cells #[.int .i64 k] T (0, 0)) news') (hv : ResVs P r news' fn v) (hv0 : v = v0) :
    RunE (bodyPostM Fence.wide 9 P fn (Pure v0 W)) n (.panic [{ v := mis k, recovered := false }]) r [{ target := .fn (.func f) #[.pointer (some ⟨b, 0, none⟩)], args := #[] }] W [] news := fun a w s => by
  show LeavesInM _ _ _ _ _ _ a.defers _ w
  rw [s.defers]
  refine ⟨by simp, .inr ⟨fun h => (by cases h), _, _, f, #[.pointer (some ⟨b, 0, none⟩)], rfl, by simp [invoke]; exact he _ _, fun _ _ => trivial, (hc.wild b k x w (s.mem.newd _ _ hu.mem).2).mono ?_⟩⟩
  rintro e u w' ⟨⟨y, rfl⟩, rfl, hm⟩
  have hm2 := s.mem.turn_new hu hm
  exact ⟨v, hv.run s.agree (fun _ _ h => hm2.at (by simpa using h)), by rw [hv0], hm2.drop⟩
theorem out_pure {v v0 : Value} (h : v = v0) {news2 : Blks} : ∀ w, Mem W [] news2 w → Pure v0 W (.returned v) w := fun _ hm => ⟨by rw [h], hm.drop⟩
end
end Go.Eng
/- The engine: structs and arrays of numbers and truth values, compared. No program is in sight. -/
namespace Go.Eng
open Go Go.RowKit
/-- Fields that are compared by g. -/
def eqFs (P : Program) (g : TypeId → List Value → List Value → Option Bool) (cs es : List Value) : List Field → Option Bool
  | [] => some true
  | f :: fs => if f.name = "_" then none else
    match g f.type ((cs.drop f.offset).take (P.cellsOf f.type)) ((es.drop f.offset).take (P.cellsOf f.type)), eqFs P g cs es fs with
    | some a, some b => some (a && b)
    | _, _ => none
def eqIs (P : Program) (g : TypeId → List Value → List Value → Option Bool) (e : TypeId) (cs es : List Value) : List Nat → Option Bool
  | [] => some true
  | i :: is => match g e ((cs.drop (i * P.cellsOf e)).take (P.cellsOf e)) ((es.drop (i * P.cellsOf e)).take (P.cellsOf e)), eqIs P g e cs es is with
    | some a, some b => some (a && b)
    | _, _ => none
/-- Are values of a type, cell by cell, the same? -/
def eqF (P : Program) : Nat → TypeId → List Value → List Value → Option Bool
  | 0, _, _, _ => none
  | m + 1, t, cs, es => match P.underlying t with
    | some (.int _) => match cs, es with
      | [.int k a], [.int k' b] => if k = k' then some (decide (a = b)) else none
      | _, _ => none
    | some .bool => match cs, es with
      | [.bool a], [.bool b] => some (a == b)
      | _, _ => none
    | some .string => match cs, es with
      | [.string a], [.string b] => some (a.toList == b.toList)
      | _, _ => none
    | some (.struct fs) => if P.stoodInHeld t = false ∧ cs.length = P.cellsOf t ∧ es.length = P.cellsOf t then eqFs P (eqF P m) cs es fs.toList else none
    | some (.array n e) => if n ≠ 0 ∧ cs.length = P.cellsOf t ∧ es.length = P.cellsOf t then eqIs P (eqF P m) e cs es (List.range n) else none
    | _ => none
def valOf (P : Program) (t : TypeId) (cs : List Value) : Value := match P.underlying t with
  | some (.struct _) => .agg cs.toArray
  | some (.array _ _) => .agg cs.toArray
  | _ => cs.headD undef
section
variable {P : Program}
theorem part_of {m off : Nat} {t : TypeId} {xs es : List Value} {w : World} {b : Bool} (h : eqF P m t ((xs.drop off).take (P.cellsOf t)) es = some b) : (part t xs.toArray off).run P w = .ok (valOf P t ((xs.drop off).take (P.cellsOf t))) w := by
  cases m with
  | zero => cases h
  | succ m =>
    unfold eqF at h
    cases hu : P.underlying t with
    | none => simp [hu] at h
    | some d =>
      rw [hu] at h
      have plain : ∀ v, (xs.drop off).take (P.cellsOf t) = [v] → xs[off]? = some v := fun v hv => by
        have h1 : ((xs.drop off).take (P.cellsOf t))[0]? = some v := by rw [hv]; rfl
        rw [List.getElem?_take] at h1
        split at h1
        · simpa using h1
        · cases h1
      have agg : isAggD d = true → (part t xs.toArray off).run P w = .ok (.agg ((xs.drop off).take (P.cellsOf t)).toArray) w := fun ha => by
        obtain ⟨i, hi⟩ := info_of_underlying hu
        have hc : P.cellsOf t = i.size := by simp [Program.cellsOf, hi]
        have e : xs.toArray.extract off (off + i.size) = ((xs.drop off).take (P.cellsOf t)).toArray := by
          rw [hc]
          simp
        cases d <;> simp [isAggD] at ha <;> simp [part, isAgg, run_underlying hu, sizeOf, typeInfo, hi, ← e]
      unfold valOf
      rw [hu]
      cases d with
      | int k =>
        simp only at h ⊢
        split at h
        · rename_i a _ _ hv
          rw [hv]
          exact run_part1 hu rfl (by simpa using plain _ hv)
        · cases h
      | bool =>
        simp only at h ⊢
        split at h
        · rename_i a _ hv
          rw [hv]
          exact run_part1 hu rfl (by simpa using plain _ hv)
        · cases h
      | string =>
        simp only at h ⊢
        split at h
        · rename_i a _ hv
          rw [hv]
          exact run_part1 hu rfl (by simpa using plain _ hv)
        · cases h
      | struct fs => exact agg rfl
      | array n e => exact agg rfl
      | _ => simp at h
theorem part_of2 {m off : Nat} {t : TypeId} {xs cs : List Value} {w : World} {b : Bool} (h : eqF P m t cs ((xs.drop off).take (P.cellsOf t)) = some b) : (part t xs.toArray off).run P w = .ok (valOf P t ((xs.drop off).take (P.cellsOf t))) w := by
  have h2 : ∃ b, eqF P m t ((xs.drop off).take (P.cellsOf t)) ((xs.drop off).take (P.cellsOf t)) = some b := by
    have sym : ∀ (m : Nat) (t : TypeId) (cs es : List Value) (b : Bool), eqF P m t cs es = some b → ∃ b, eqF P m t es es = some b := by
      intro m
      induction m with
      | zero => intro t cs es b h; cases h
      | succ m ih =>
        intro t cs es b h
        unfold eqF at h ⊢
        split at h
        · split at h
          · split at h
            · rename_i hk; subst hk; exact ⟨_, by simp; rfl⟩
            · cases h
          · cases h
        · split at h
          · exact ⟨_, by simp; rfl⟩
          · cases h
        · split at h
          · exact ⟨_, by simp; rfl⟩
          · cases h
        · rename_i fs _
          split at h
          · rename_i hc
            rw [if_pos ⟨hc.1, hc.2.2, hc.2.2⟩]
            generalize fs.toList = l at h
            induction l generalizing b with
            | nil => exact ⟨true, rfl⟩
            | cons f l ihl =>
              unfold eqFs at h ⊢
              split at h
              · cases h
              · rename_i hn
                rw [if_neg hn]
                split at h
                · rename_i a b' h1 h2
                  obtain ⟨u, hu⟩ := ih _ _ _ _ h1
                  obtain ⟨v, hv⟩ := ihl _ h2
                  rw [hu, hv]; exact ⟨_, rfl⟩
                · cases h
          · cases h
        · rename_i n e _
          split at h
          · rename_i hc
            rw [if_pos ⟨hc.1, hc.2.2, hc.2.2⟩]
            generalize List.range n = l at h
            induction l generalizing b with
            | nil => exact ⟨true, rfl⟩
            | cons i l ihl =>
              unfold eqIs at h ⊢
              split at h
              · rename_i a b' h1 h2
                obtain ⟨u, hu⟩ := ih _ _ _ _ h1
                obtain ⟨v, hv⟩ := ihl _ h2
                rw [hu, hv]; exact ⟨_, rfl⟩
              · cases h
          · cases h
        · cases h
    exact sym _ _ _ _ _ h
  obtain ⟨b2, h2⟩ := h2
  exact part_of h2
theorem run_eqF (d : Nat) : ∀ (m : Nat) (t : TypeId) (cs es : List Value) (b : Bool) (w : World), eqF P m t cs es = some b → (Op.equalIn (d + m) t (valOf P t cs) (valOf P t es)).run P w = .ok b w := by
  intro m
  induction m with
  | zero => intro t cs es b w h; cases h
  | succ m ih =>
    intro t cs es b w h
    unfold eqF at h
    unfold valOf
    rw [show d + (m + 1) = (d + m) + 1 from rfl]
    cases hu : P.underlying t with
    | none => simp [hu] at h
    | some dd =>
      rw [hu] at h
      cases dd with
      | int k =>
        simp only at h ⊢
        split at h
        · split at h
          · rename_i hk
            cases h
            subst hk
            rw [List.headD_cons, List.headD_cons, run_equal_int hu]
            rfl
          · cases h
        · cases h
      | bool =>
        simp only at h ⊢
        split at h
        · cases h
          rw [List.headD_cons, List.headD_cons, run_equalIn_bool w _ _ _ _ hu]
        · cases h
      | string =>
        simp only at h ⊢
        split at h
        · cases h
          rw [List.headD_cons, List.headD_cons, run_equalIn_string w _ _ _ _ hu]
        · cases h
      | struct fs =>
        simp only at h ⊢
        split at h
        · rename_i hc
          have hfs : P.fieldsOf t = fs := by simp [Program.fieldsOf, hu]
          rw [run_equalIn_struct w (d + m) t _ _ (by rw [hfs]; exact hu) hc.1, hfs]
          generalize fs.toList = l at h
          induction l generalizing b with
          | nil => cases h; simp [Op.eqFields]
          | cons f l ihl =>
            unfold eqFs at h
            split at h
            · cases h
            · rename_i hn
              split at h
              · rename_i a b' h1 h2
                cases h
                unfold Op.eqFields
                rw [if_pos hn]
                simp only [Sem.run_bind, part_of h1, part_of2 h1, Result.andThen_ok, ih _ _ _ _ w h1]
                cases a with
                | true => simpa using ihl _ h2
                | false => simp
              · cases h
        · cases h
      | array n e =>
        simp only at h ⊢
        split at h
        · rename_i hc
          have hn := hc.1
          have hie : ∃ i, P.info? e = some i := by
            have h0 : List.range n = 0 :: (List.range' 1 (n - 1)) := by
              rw [List.range_eq_range']
              cases n with
              | zero => exact absurd rfl hn
              | succ n => simp [List.range'_succ]
            rw [h0] at h
            unfold eqIs at h
            split at h
            · rename_i a b' h1 h2
              cases m with
              | zero => cases h1
              | succ m =>
                unfold eqF at h1
                cases hue : P.underlying e with
                | none => simp [hue] at h1
                | some _ => exact info_of_underlying hue
            · cases h
          obtain ⟨i, hi⟩ := hie
          rw [run_equalIn_array w (d + m) _ _ hu hi]
          generalize List.range n = l at h
          induction l generalizing b with
          | nil => cases h; simp [Op.eqItems]
          | cons j l ihl =>
            unfold eqIs at h
            split at h
            · rename_i a b' h1 h2
              cases h
              unfold Op.eqItems
              simp only [Sem.run_bind, part_of h1, part_of2 h1, Result.andThen_ok, ih _ _ _ _ w h1]
              cases a with
              | true => simpa using ihl _ h2
              | false => simp
            · cases h
        · cases h
      | _ => simp at h
end
section
variable {P : Program} {ops : Array Oper} {Q : Exit → Act → World → Prop} {n : Nat} {r : Regs} {ds : List Deferred} {W : World} {chg news : Blks} {rest : List Oper}
variable {d : Nat} {ty : TypeId} {pos : String} {after : Array Edge} {dst : Option Tmp} {gd : Option (Nat × Bool)}
/-- A type of structs or arrays that is compared without a guard. -/
def aggB (P : Program) (T : TypeId) : Bool := !P.eqGuardType P.depth T && match P.underlying T with | some (.struct _) => true | some (.array _ _) => true | _ => false
theorem aggB_spec {T : TypeId} (h : aggB P T = true) (cs : List Value) : P.eqGuardType P.depth T = false ∧ valOf P T cs = .agg cs.toArray := by
  simp only [aggB, Bool.and_eq_true, Bool.not_eq_true'] at h
  refine ⟨h.1, ?_⟩
  have h2 := h.2
  unfold valOf
  split at h2 <;> simp_all
theorem Val.eql_flat {x y : Operand} {T yt : TypeId} {cs es : List Value} {b : Bool} (hx : rev r x = some (.agg cs.toArray)) (hy : rev r y = some (.agg es.toArray)) (h : aggB P T = true) (he : eqF P 8 T cs es = some b) :
    Val P r W chg news { dst, op := .binOp .eql T x y yt, type := ty, pos, after, guard := gd } (.bool b) :=
  ⟨fun ac w ha _ => by
    have h1 := run_eqF 9992 8 T cs es b w he
    rw [(aggB_spec h cs).2, (aggB_spec h es).2] at h1
    have h2 : (Op.equal T (.agg cs.toArray) (.agg es.toArray)).run P w = .ok b w := h1
    simp [execOp, ha.eval hx, ha.eval hy, eqGuard, (aggB_spec h cs).1, binOp, h2]⟩
theorem Val.neq_flat {x y : Operand} {T yt : TypeId} {cs es : List Value} {b : Bool} (hx : rev r x = some (.agg cs.toArray)) (hy : rev r y = some (.agg es.toArray)) (h : aggB P T = true) (he : eqF P 8 T cs es = some b) :
    Val P r W chg news { dst, op := .binOp .neq T x y yt, type := ty, pos, after, guard := gd } (.bool (!b)) :=
  ⟨fun ac w ha _ => by
    have h1 := run_eqF 9992 8 T cs es b w he
    rw [(aggB_spec h cs).2, (aggB_spec h es).2] at h1
    have h2 : (Op.equal T (.agg cs.toArray) (.agg es.toArray)).run P w = .ok b w := h1
    simp [execOp, ha.eval hx, ha.eval hy, eqGuard, (aggB_spec h cs).1, binOp, h2]⟩
end
end Go.Eng
/- The engine: maps whose keys are numbers, and loops over them. No program is in sight. -/
namespace Go.Eng
open Go Go.RowKit
/-- The entries of a map whose keys are numbers, in the order in which they came. -/
def mEntsF : Nat → List (Int × Value) → List MapEntry
  | _, [] => []
  | i, x :: l => { key := .int .i64 x.1, val := x.2, born := i } :: mEntsF (i + 1) l
def mapO (l : List (Int × Value)) : Obj := .map (mEntsF 0 l).toArray l.length
def mIdx : List (Int × Value) → Int → Option (Nat × Value)
  | [], _ => none
  | x :: l, a => if x.1 = a then some (0, x.2) else (mIdx l a).map fun p => (p.1 + 1, p.2)
def mFind (l : List (Int × Value)) (a : Int) : Option Value := (mIdx l a).map (·.2)
theorem ents_len : ∀ (l : List (Int × Value)) (i : Nat), (mEntsF i l).length = l.length
  | [], _ => rfl
  | x :: l, i => by simp [mEntsF, ents_len l (i + 1)]
theorem ents_snoc : ∀ (l : List (Int × Value)) (i : Nat) (x : Int × Value), mEntsF i (l ++ [x]) = mEntsF i l ++ [{ key := .int .i64 x.1, val := x.2, born := i + l.length }]
  | [], i, x => by simp [mEntsF]
  | y :: l, i, x => by
    simp only [List.cons_append, mEntsF, ents_snoc l (i + 1) x, List.length_cons]
    rw [show i + 1 + l.length = i + (l.length + 1) by omega]
theorem ents_mem {e : MapEntry} : ∀ (l : List (Int × Value)) (i : Nat), e ∈ mEntsF i l → ∃ j, ∃ h : j < l.length, e = { key := .int .i64 l[j].1, val := l[j].2, born := i + j }
  | [], i, h => by cases h
  | x :: l, i, h => by
    simp only [mEntsF, List.mem_cons] at h
    rcases h with rfl | h
    · exact ⟨0, by simp, by simp⟩
    · obtain ⟨j, hj, rfl⟩ := ents_mem l (i + 1) h
      exact ⟨j + 1, by simp only [List.length_cons]; omega, by simp only [List.getElem_cons_succ]; rw [show i + 1 + j = i + (j + 1) by omega]⟩
theorem ents_in : ∀ (l : List (Int × Value)) (i j : Nat) (h : j < l.length), ({ key := .int .i64 l[j].1, val := l[j].2, born := i + j } : MapEntry) ∈ mEntsF i l
  | x :: l, i, 0, _ => by simp [mEntsF]
  | x :: l, i, j + 1, h => by
    have := ents_in l (i + 1) j (by simpa using h)
    simp only [mEntsF, List.mem_cons, List.getElem_cons_succ]
    right
    rw [show i + (j + 1) = i + 1 + j by omega]
    exact this
theorem findNow_ents (q : IntKind) (a : Int) : ∀ (l : List (Int × Value)) (i j : Nat), Instr.findNow (.int q) (.int .i64 a) (mEntsF i l) j = some ((mIdx l a).map fun p => (j + p.1, p.2))
  | [], _, _ => rfl
  | x :: l, i, j => by
    unfold mEntsF Instr.findNow mIdx
    by_cases h : x.1 = a
    · subst h; simp [Instr.sameNow]
    · have h2 : (a == x.1) = false := by simp; exact fun e => h e.symm
      simp only [Instr.sameNow, if_true, h2, h, if_false]
      rw [findNow_ents q a l (i + 1) (j + 1)]
      cases mIdx l a with
      | none => rfl
      | some p => simp; omega
/-- A map type whose keys are whole numbers: the type of its elements. -/
def mapB (P : Program) (T : TypeId) : Option TypeId := match P.underlying T with
  | some (.map k e) => if (P.underlying k).any isIntD then some e else none
  | _ => none
def zeroV (P : Program) (E : TypeId) : Option Value := (P.info? E).bind (·.zero)
theorem mapB_spec {P : Program} {T E : TypeId} (h : mapB P T = some E) : ∃ k q, P.underlying T = some (.map k E) ∧ P.underlying k = some (.int q) := by
  unfold mapB at h
  split at h
  · rename_i k e hu
    split at h
    · rename_i hk
      obtain ⟨q, hq⟩ := any_int hk
      cases h
      exact ⟨k, q, hu, hq⟩
    · cases h
  · cases h
section
variable {P : Program} {ops : Array Oper} {Q : Exit → Act → World → Prop} {n : Nat} {r : Regs} {ds : List Deferred} {W : World} {chg news : Blks} {rest : List Oper}
variable {d : Nat} {ty : TypeId} {pos : String} {after : Array Edge} {dst : Option Tmp} {gd : Option (Nat × Bool)}
theorem run_lookup_num {w : World} {T E : TypeId} {b : Nat} {l : List (Int × Value)} {a : Int} {z : Value} {ok : Bool} (hb : w.heap[b]? = some (mapO l)) (hT : mapB P T = some E) (hz : zeroV P E = some z) :
    (Instr.lookup T (.map (some b)) (.int .i64 a) ok).run P w = .ok (if ok then .tuple #[(mFind l a).getD z, .bool (mFind l a).isSome] else (mFind l a).getD z) w := by
  obtain ⟨k, q, hu, hq⟩ := mapB_spec hT
  have hzz : (zeroValue E).run P w = .ok z w := by
    unfold zeroV at hz
    cases hi : P.info? E with
    | none => simp [hi] at hz
    | some i =>
      simp [hi] at hz
      simp [zeroValue, typeInfo, hi, hz]
  have hf : (Instr.findKey k (.int .i64 a) (mEntsF 0 l)).run P w = .ok (mIdx l a) w := by
    have := findNow_ents q a l 0 0
    refine (MapKept.run_findKey hq this).trans ?_
    cases mIdx l a <;> simp
  have hc : ∀ e, (Instr.checkKey e 10000 k (.int .i64 a)).run P w = .ok () w := fun e => by
    rw [show (10000 : Nat) = 9999 + 1 from rfl]
    unfold Instr.checkKey
    simp [run_underlying hq]
  unfold mapO at hb
  unfold mFind
  simp only [Instr.lookup, Sem.run_bind, run_underlying hu, Result.andThen_ok, MapKept.run_getObj_map hb, Sem.run_pure]
  rw [hc]
  simp only [Result.andThen_ok, hf]
  cases h : mIdx l a with
  | none => cases ok <;> simp [hzz]
  | some p => cases ok <;> simp
theorem Val.lookup {x i : Operand} {T E : TypeId} {b : Nat} {l : List (Int × Value)} {a : Int} {z : Value} (hx : rev r x = some (.map (some b))) (hi : rev r i = some (.int .i64 a)) (hb : ∀ w, Mem W chg news w → w.heap[b]? = some (mapO l)) (hT : mapB P T = some E) (hz : zeroV P E = some z) :
    Val P r W chg news { dst, op := .lookup T x i false, type := ty, pos, after, guard := gd } ((mFind l a).getD z) :=
  ⟨fun ac w ha hm => by
    have h1 := run_lookup_num (P := P) (ok := false) (a := a) (hb w hm) hT hz
    simp at h1
    simp [execOp, ha.eval hx, ha.eval hi, h1]⟩
theorem Val.lookupOk {x i : Operand} {T E : TypeId} {b : Nat} {l : List (Int × Value)} {a : Int} {z : Value} (hx : rev r x = some (.map (some b))) (hi : rev r i = some (.int .i64 a)) (hb : ∀ w, Mem W chg news w → w.heap[b]? = some (mapO l)) (hT : mapB P T = some E) (hz : zeroV P E = some z) :
    Val P r W chg news { dst, op := .lookup T x i true, type := ty, pos, after, guard := gd } (.tuple #[(mFind l a).getD z, .bool (mFind l a).isSome]) :=
  ⟨fun ac w ha hm => by
    have h1 := run_lookup_num (P := P) (ok := true) (a := a) (hb w hm) hT hz
    simp at h1
    simp [execOp, ha.eval hx, ha.eval hi, h1]⟩
theorem Val.lookupE {x i : Operand} {T E : TypeId} {b : Nat} {l : List (Int × Value)} {a : Int} {z : Value} {o : Option Value} (hx : rev r x = some (.map (some b))) (hi : rev r i = some (.int .i64 a)) (hb : ∀ w, Mem W chg news w → w.heap[b]? = some (mapO l)) (hT : mapB P T = some E) (hz : zeroV P E = some z) (ho : mFind l a = o) :
    Val P r W chg news { dst, op := .lookup T x i false, type := ty, pos, after, guard := gd } (o.getD z) := ho ▸ Val.lookup hx hi hb hT hz
theorem Val.lookupOkE {x i : Operand} {T E : TypeId} {b : Nat} {l : List (Int × Value)} {a : Int} {z : Value} {o : Option Value} (hx : rev r x = some (.map (some b))) (hi : rev r i = some (.int .i64 a)) (hb : ∀ w, Mem W chg news w → w.heap[b]? = some (mapO l)) (hT : mapB P T = some E) (hz : zeroV P E = some z) (ho : mFind l a = o) :
    Val P r W chg news { dst, op := .lookup T x i true, type := ty, pos, after, guard := gd } (.tuple #[o.getD z, .bool o.isSome]) := ho ▸ Val.lookupOk hx hi hb hT hz
theorem Val.lookupV {x i : Operand} {T E : TypeId} {b : Nat} {l : List (Int × Value)} {a : Int} {z v : Value} (hx : rev r x = some (.map (some b))) (hi : rev r i = some (.int .i64 a)) (hb : ∀ w, Mem W chg news w → w.heap[b]? = some (mapO l)) (hT : mapB P T = some E) (hz : zeroV P E = some z) (ho : (mFind l a).getD z = v) :
    Val P r W chg news { dst, op := .lookup T x i false, type := ty, pos, after, guard := gd } v := ho ▸ Val.lookup hx hi hb hT hz
theorem Val.lookupOkV {x i : Operand} {T E : TypeId} {b : Nat} {l : List (Int × Value)} {a : Int} {z v : Value} (hx : rev r x = some (.map (some b))) (hi : rev r i = some (.int .i64 a)) (hb : ∀ w, Mem W chg news w → w.heap[b]? = some (mapO l)) (hT : mapB P T = some E) (hz : zeroV P E = some z) (ho : Value.tuple #[(mFind l a).getD z, .bool (mFind l a).isSome] = v) :
    Val P r W chg news { dst, op := .lookup T x i true, type := ty, pos, after, guard := gd } v := ho ▸ Val.lookupOk hx hi hb hT hz
theorem New.makeMap {T : TypeId} : New P r W chg news { dst, op := .makeMap T none, type := ty, pos, after, guard := gd } (fun b => .map (some b)) (mapO []) :=
  ⟨fun a w _ _ => by simp [execOp, Instr.makeMap, newObj, Sem.run, mapO, mEntsF]⟩
theorem run_mapUpdate_num {w : World} {T E : TypeId} {b : Nat} {l : List (Int × Value)} {a : Int} {v : Value} (hb : w.heap[b]? = some (mapO l)) (hT : mapB P T = some E) (hk : mIdx l a = none) :
    (Instr.mapUpdate T (.map (some b)) (.int .i64 a) v).run P w = .ok () { w with heap := w.heap.setIfInBounds b (mapO (l ++ [(a, v)])) } := by
  obtain ⟨k, q, hu, hq⟩ := mapB_spec hT
  have hf : (Instr.findKey k (.int .i64 a) (mEntsF 0 l)).run P w = .ok none w := by
    have := findNow_ents q a l 0 0
    rw [hk] at this
    exact MapKept.run_findKey hq this
  have hc : ∀ e, (Instr.checkKey e 10000 k (.int .i64 a)).run P w = .ok () w := fun e => by
    rw [show (10000 : Nat) = 9999 + 1 from rfl]
    unfold Instr.checkKey
    simp [run_underlying hq]
  have e1 : mapO (l ++ [(a, v)]) = .map ((mEntsF 0 l).toArray.push { key := .int .i64 a, val := v, born := l.length }) (l.length + 1) := by
    unfold mapO
    rw [ents_snoc]
    simp
  unfold mapO at hb
  rw [e1]
  simp only [Instr.mapUpdate, Sem.run_bind, run_underlying hu, Result.andThen_ok, MapKept.run_getObj_map hb, hc, hf, MapKept.run_setObj_map _ hb]
theorem heap_set_spec {w : World} {b : Nat} {o o' : Obj} (hb : w.heap[b]? = some o) : ({ w with heap := w.heap.setIfInBounds b o' } : World).heap[b]? = some o' ∧ ∀ k, k ≠ b → ({ w with heap := w.heap.setIfInBounds b o' } : World).heap[k]? = w.heap[k]? := by
  have hlt := (Array.getElem?_eq_some_iff.1 hb).1
  refine ⟨by simp [hlt], fun k hk => ?_⟩
  show (w.heap.setIfInBounds b o')[k]? = _
  rw [Array.getElem?_setIfInBounds, if_neg (fun e => hk e.symm)]
theorem Sto.mapNew {x i y : Operand} {T E : TypeId} {b : Nat} {l : List (Int × Value)} {a : Int} {v : Value} {news' : Blks} (hx : rev r x = some (.map (some b))) (hi : rev r i = some (.int .i64 a)) (hy : rev r y = some v) (hu : Upd news b (mapO l) (mapO (l ++ [(a, v)])) news') (hT : mapB P T = some E) (hk : mIdx l a = none) :
    Sto P r W chg news { dst, op := .mapUpdate T x i y, type := ty, pos, after, guard := gd } chg news' :=
  ⟨fun ac w ha hm => by
    have hb := (hm.newd _ _ hu.mem).2
    obtain ⟨s1, s2⟩ := heap_set_spec (o' := mapO (l ++ [(a, v)])) hb
    refine ⟨{ w with heap := w.heap.setIfInBounds b (mapO (l ++ [(a, v)])) }, by simp [execOp, ha.eval hx, ha.eval hi, ha.eval hy, run_mapUpdate_num hb hT hk], hm.upd_new hu rfl rfl rfl (by simp) (fun k _ hk => s2 k hk) s1⟩⟩
theorem Sto.mapNew_chg {x i y : Operand} {T E : TypeId} {b : Nat} {l : List (Int × Value)} {a : Int} {v : Value} {chg' : Blks} (hx : rev r x = some (.map (some b))) (hi : rev r i = some (.int .i64 a)) (hy : rev r y = some v) (hu : Upd chg b (mapO l) (mapO (l ++ [(a, v)])) chg') (hT : mapB P T = some E) (hk : mIdx l a = none) :
    Sto P r W chg news { dst, op := .mapUpdate T x i y, type := ty, pos, after, guard := gd } chg' news :=
  ⟨fun ac w ha hm => by
    have hb := (hm.chgd _ _ hu.mem).2
    obtain ⟨s1, s2⟩ := heap_set_spec (o' := mapO (l ++ [(a, v)])) hb
    refine ⟨{ w with heap := w.heap.setIfInBounds b (mapO (l ++ [(a, v)])) }, by simp [execOp, ha.eval hx, ha.eval hi, ha.eval hy, run_mapUpdate_num hb hT hk], hm.upd_chg hu rfl rfl rfl (by simp) (fun k _ hk => s2 k hk) s1⟩⟩
/-- What a loop over a map has of it: the entries that have come, in whatever order. -/
def itO (m : Nat) (l : List (Int × Value)) (x : List Nat) : Obj := .mapIter (some m) l.length x.toArray l.length
theorem New.range {x : Operand} {T E : TypeId} {m : Nat} {l : List (Int × Value)} (hx : rev r x = some (.map (some m))) (hb : ∀ w, Mem W chg news w → w.heap[m]? = some (mapO l)) (hT : mapB P T = some E) :
    New P r W chg news { dst, op := .range T x, type := ty, pos, after, guard := gd } (fun b => .pointer (some ⟨b, 0, none⟩)) (itO m l []) :=
  ⟨fun a w ha hm => by
    obtain ⟨k, q, hu, hq⟩ := mapB_spec hT
    have hb' : w.heap[m]? = some (.map (mEntsF 0 l).toArray l.length) := hb w hm
    simp [execOp, ha.eval hx, Instr.range, run_underlying hu, MapKept.run_getObj_map hb', newObj, Sem.run, itO]⟩
theorem RunL.next {it : Operand} {rb m : Nat} {l : List (Int × Value)} {x : List Nat} {news' : Nat → Blks} (hx : rev r it = some (.pointer (some ⟨rb, 0, none⟩))) (hm0 : ∀ w, Mem W chg news w → w.heap[m]? = some (mapO l)) (hu : ∀ i, Upd news rb (itO m l x) (itO m l (x ++ [i])) (news' i)) (hn : Nat.ble (d + 1) n = true)
    (h1 : ∀ i (hi : i < l.length), i ∉ x → RunL P ops Q n rest ((d, .tuple #[.bool true, .int .i64 l[i].1, l[i].2]) :: r) ds W chg (news' i))
    (h2 : (∀ i, i < l.length → i ∈ x) → RunL P ops Q n rest ((d, .tuple #[.bool false]) :: r) ds W chg news) :
    RunL P ops Q n ({ dst := some d, op := .next it false, type := ty, pos, after, guard := none } :: rest) r ds W chg news := fun a w s =>
  wpList_plain rfl fun K hK => by
    have hr : w.heap[rb]? = some (.mapIter (some m) l.length x.toArray l.length) := (s.mem.newd _ _ (hu 0).mem).2
    have hb : w.heap[m]? = some (.map (mEntsF 0 l).toArray l.length) := hm0 w s.mem
    have hev := s.agree.eval hx
    have hlt : ∀ e ∈ (mEntsF 0 l).toArray.toList, e.born < l.length := fun e he => by
      obtain ⟨j, hj, rfl⟩ := ents_mem l 0 (by simpa using he)
      simpa using hj
    unfold Oper.wp
    rcases run_next_at (P := P) w ty rb m l.length l.length x.toArray (mEntsF 0 l).toArray l.length hr hb hlt (Nat.le_refl _) with ⟨h0, hrun⟩ | ⟨e, he, w1, hw1, hrun⟩
    · simp [execOp, hev, hrun]
      refine hK _ _ (h2 (fun i hi => ?_) _ _ (s.put (Nat.le_of_ble_eq_true hn) _))
      by_cases hc : i ∈ x
      · exact hc
      · exfalso
        have hin : ({ key := .int .i64 l[i].1, val := l[i].2, born := 0 + i } : MapEntry) ∈ leftOf (mEntsF 0 l).toArray x.toArray := by
          unfold leftOf
          simp only [Array.mem_filter, List.mem_toArray]
          exact ⟨ents_in l 0 i hi, by simpa using hc⟩
        have := Array.size_pos_of_mem hin
        omega
    · have he2 : e ∈ (mEntsF 0 l) ∧ e.born ∉ x := by
        have h3 : e ∈ leftOf (mEntsF 0 l).toArray x.toArray := by simpa using he
        unfold leftOf at h3
        simp only [Array.mem_filter, List.mem_toArray] at h3
        exact ⟨h3.1, by simpa using h3.2⟩
      obtain ⟨j, hj, rfl⟩ := ents_mem l 0 he2.1
      have hjx : j ∉ x := by simpa using he2.2
      simp [execOp, hev, hrun]
      refine hK _ _ (h1 j hj hjx _ _ ?_)
      have s2 := s.put (Nat.le_of_ble_eq_true hn) (.tuple #[.bool true, .int .i64 l[j].1, l[j].2])
      have hr1 : w1.heap[rb]? = some (.mapIter (some m) l.length x.toArray l.length) := by rcases hw1 with rfl | rfl <;> exact hr
      obtain ⟨q1, q2⟩ := heap_set_spec (o' := itO m l (x ++ [j])) hr1
      have hmem1 : Mem W chg news w1 := by
        rcases hw1 with rfl | rfl
        · exact s.mem
        · exact s.mem.drew
      refine ⟨s2.size, s2.agree, s2.defers, ?_⟩
      have e1 : ChangeMaps.setBlock w1 rb (.mapIter (some m) l.length (x ++ [j]).toArray l.length) = { w1 with heap := w1.heap.setIfInBounds rb (itO m l (x ++ [j])) } := by
        simp [ChangeMaps.setBlock, itO]
      rw [e1]
      exact hmem1.upd_new (hu j) rfl rfl rfl (by simp) (fun k _ hk => q2 k hk) q1
theorem ents_nodup : ∀ (l : List (Int × Value)) (i : Nat), ((mEntsF i l).map (·.born)).Nodup ∧ ∀ b ∈ (mEntsF i l).map (·.born), i ≤ b
  | [], _ => by simp [mEntsF]
  | x :: l, i => by
    obtain ⟨h1, h2⟩ := ents_nodup l (i + 1)
    simp only [mEntsF, List.map_cons, List.nodup_cons, List.mem_cons, forall_eq_or_imp]
    exact ⟨⟨fun h => by have := h2 _ h; omega, h1⟩, Nat.le_refl _, fun b hb => by have := h2 b hb; omega⟩
/-- The entry to which a loop has come. -/
theorem Val.entry {x : Operand} {rb m i : Nat} {l : List (Int × Value)} {xs : List Nat} (hx : rev r x = some (.pointer (some ⟨rb, 0, none⟩))) (hr : ∀ w, Mem W chg news w → w.heap[rb]? = some (itO m l (xs ++ [i]))) (hm0 : ∀ w, Mem W chg news w → w.heap[m]? = some (mapO l)) (hi : i < l.length) :
    Val P r W chg news { dst, op := .entry x, type := ty, pos, after, guard := gd } (.tuple #[.int .i64 l[i].1, l[i].2]) :=
  ⟨fun a w ha hm => by
    have h1 : w.heap[rb]? = some (.mapIter (some m) l.length (xs.toArray.push (0 + i)) l.length) := by rw [hr w hm]; simp [itO]
    have h2 : w.heap[m]? = some (.map (mEntsF 0 l).toArray l.length) := hm0 w hm
    have := run_entry_at (P := P) w rb m l.length xs.toArray (mEntsF 0 l).toArray l.length { key := .int .i64 l[i].1, val := l[i].2, born := 0 + i } h1 h2 (by simpa using ents_in l 0 i hi) (by simpa using (ents_nodup l 0).1)
    simp [execOp, ha.eval hx, this]⟩
/-- A whole array as a slice. -/
theorem Val.sliceArr {x : Operand} {T : TypeId} {len sz b o : Nat} (hx : rev r x = some (.pointer (some ⟨b, o, none⟩))) (hT : arrB P T = some (len + 1, sz)) :
    Val P r W chg news { dst, op := .slice T x none none none, type := ty, pos, after, guard := gd } (.slice (some ⟨b, o, none⟩) (len + 1) (len + 1)) :=
  ⟨fun a w ha _ => by
    unfold arrB at hT
    split at hT
    · rename_i m e hu
      cases hj : P.info? e with
      | none => simp [hj] at hT
      | some j =>
        simp [hj] at hT
        obtain ⟨rfl, rfl⟩ := hT
        simp [execOp, ha.eval hx, Instr.sliceAt, Instr.sureAddr, Instr.sliceBounds, run_underlying hu, sizeOf, typeInfo, hj, add_plain]
    · cases hT⟩
/-- The method of what lies in an interface, as a value: there is a receiver. -/
theorem Val.nilMeth {x : Operand} {name : String} {first cap : Array Value} {T : TypeId} {v : Value} (hx : rev r x = some (.func (.method name) first cap)) (hf : first[0]? = some (.iface T v)) (hn : ∀ w, (nilAhead (P.types.size + Made.depth) T v name).run P w = .ok (some false) w) :
    Val P r W chg news { dst, op := .nilCheck x, type := ty, pos, after, guard := gd } (.func (.method name) first cap) :=
  ⟨fun a w ha _ => by
    have h1 := hn w
    simp [execOp, ha.eval hx, hf, h1]⟩
theorem Val.entryV {x : Operand} {rb m i : Nat} {l : List (Int × Value)} {xs : List Nat} {v : Value} (hx : rev r x = some (.pointer (some ⟨rb, 0, none⟩))) (hr : ∀ w, Mem W chg news w → w.heap[rb]? = some (itO m l (xs ++ [i]))) (hm0 : ∀ w, Mem W chg news w → w.heap[m]? = some (mapO l)) (hi : i < l.length) (hv : Value.tuple #[.int .i64 l[i].1, l[i].2] = v) :
    Val P r W chg news { dst, op := .entry x, type := ty, pos, after, guard := gd } v := hv ▸ Val.entry hx hr hm0 hi
end
/-- The entries that a loop has met. -/
structure Vis (n k : Nat) (x : List Nat) : Prop where
  nd : x.Nodup
  lt : ∀ i ∈ x, i < n
  len : x.length = k
theorem Vis.nil {n : Nat} : Vis n 0 [] := ⟨List.nodup_nil, fun i h => (by cases h), rfl⟩
theorem nodup_le : ∀ (n : Nat) (x : List Nat), x.Nodup → (∀ i ∈ x, i < n) → x.length ≤ n
  | 0, x, _, h => by
    cases x with
    | nil => simp
    | cons a x => exact absurd (h a (by simp)) (by omega)
  | n + 1, x, hn, h => by
    by_cases hm : n ∈ x
    · have h1 := nodup_le n (x.erase n) (hn.erase n) (fun i hi => by
        have h2 := (List.Nodup.mem_erase_iff hn).1 hi
        have := h i h2.2
        have := h2.1
        omega)
      rw [List.length_erase_of_mem hm] at h1
      omega
    · have := nodup_le n x hn (fun i hi => by
        have := h i hi
        have : i ≠ n := fun e => hm (e ▸ hi)
        omega)
      omega
theorem Vis.snoc {n k i : Nat} {x : List Nat} (h : Vis n k x) (hi : i < n) (hx : i ∉ x) : Vis n (k + 1) (x ++ [i]) :=
  ⟨List.nodup_append.2 ⟨h.nd, by simp, fun a ha b hb => by cases List.mem_singleton.1 hb; exact fun e => hx (e ▸ ha)⟩, fun j hj => by
    rcases List.mem_append.1 hj with hj | hj
    · exact h.lt j hj
    · cases List.mem_singleton.1 hj; exact hi, by simp [h.len]⟩
theorem Vis.more {n k i : Nat} {x : List Nat} (h : Vis n k x) (hi : i < n) (hx : i ∉ x) : k < n := by
  have := nodup_le n _ (h.snoc hi hx).nd (h.snoc hi hx).lt
  rw [(h.snoc hi hx).len] at this
  omega
end Go.Eng
/- The engine: ways in the forced tail of a region that draws; max and min of three numbers. -/
namespace Go.Eng
open Go
variable {P : Program} {r : Regs} {W : World} {chg news : Blks}
theorem RunB.ways {ops : Array Oper} {Q : Exit → Act → World → Prop} {n : Nat} {ds : List Deferred} {fuel : Nat} {listed : Array Bool} {b : Bool} {dj : Nat} (hj : rget r dj = some (.bool b)) (h1 : b = true → RunB P ops Q n fuel listed ((dj, .bool true) :: r) ds W chg news)
    (h2 : b = false → RunB P ops Q n fuel listed ((dj, .bool false) :: r) ds W chg news) : RunB P ops Q n fuel listed r ds W chg news := fun a w s => by
  cases b with
  | true => exact h1 rfl a w (s.know hj rfl)
  | false => exact h2 rfl a w (s.know hj rfl)
section
variable {ty : TypeId} {pos : String} {after : Array Edge} {dst : Option Tmp} {gd : Option (Nat × Bool)}
theorem Val.max3 {x y z : Operand} {ats : Array TypeId} {k k' k2 : IntKind} {p q s : Int} (hx : rev r x = some (.int k p)) (hy : rev r y = some (.int k' q)) (hz : rev r z = some (.int k2 s)) :
    Val P r W chg news { dst, op := .call { callee := .builtin .max, args := #[x, y, z], argTypes := ats }, type := ty, pos, after, guard := gd } (.int k (Max.max (Max.max p q) s)) :=
  ⟨fun a w ha hm0 => by
    rw [BigFrame.execOp_builtin, BigFrame.builtin_max]
    have e : (if q > p then q else p) = Max.max p q := by rw [Int.max_def]; split <;> split <;> omega
    have e2 : (if s > Max.max p q then s else Max.max p q) = Max.max (Max.max p q) s := by rw [Int.max_def (Max.max p q) s]; split <;> split <;> omega
    simp [ha.eval hx, ha.eval hy, ha.eval hz, Builtin.max_, Builtin.max2, e, e2]⟩
theorem Val.min3 {x y z : Operand} {ats : Array TypeId} {k k' k2 : IntKind} {p q s : Int} (hx : rev r x = some (.int k p)) (hy : rev r y = some (.int k' q)) (hz : rev r z = some (.int k2 s)) :
    Val P r W chg news { dst, op := .call { callee := .builtin .min, args := #[x, y, z], argTypes := ats }, type := ty, pos, after, guard := gd } (.int k (Min.min (Min.min p q) s)) :=
  ⟨fun a w ha hm0 => by
    rw [BigFrame.execOp_builtin, BigFrame.builtin_min]
    have e : (if q < p then q else p) = Min.min p q := by rw [Int.min_def]; split <;> split <;> omega
    have e2 : (if s < Min.min p q then s else Min.min p q) = Min.min (Min.min p q) s := by rw [Int.min_def (Min.min p q) s]; split <;> split <;> omega
    simp [ha.eval hx, ha.eval hy, ha.eval hz, Builtin.min_, Builtin.min2, e, e2]⟩
end
end Go.Eng
/- The engine: strings, by the lists of their bytes; bytes of a string as a new block; maps whose keys are pairs. No program is in sight. -/
namespace Go.Eng
open Go Go.RowKit
def bs (l : List UInt8) : ByteArray := ⟨⟨l⟩⟩
theorem bs_of (s : ByteArray) : s = bs s.data.toList := rfl
theorem bs_size (l : List UInt8) : (bs l).size = l.length := rfl
theorem bs_inj {a b : List UInt8} : bs a = bs b ↔ a = b := ⟨fun h => congrArg (fun s => s.data.toList) h, fun h => by rw [h]⟩
theorem bs_toList (l : List UInt8) : (bs l).toList = l := ByteArray.toList_mk l
def byteV (c : UInt8) : Value := .int .u8 c.toNat
theorem bs_extract (l : List UInt8) (a b : Nat) : (bs l).extract a b = bs ((l.drop a).take (b - a)) := by
  rw [ByteArray.ext_iff, ByteArray.data_extract]
  show (l.toArray).extract a b = ((l.drop a).take (b - a)).toArray
  rw [List.extract_toArray, List.extract_eq_take_drop]
theorem bs_append (a b : List UInt8) : bs a ++ bs b = bs (a ++ b) := by
  rw [ByteArray.ext_iff, ByteArray.data_append]
  simp [bs]
structure NewX {β : Type} (P : Program) (r : Regs) (W : World) (chg news : Blks) (o : Oper) (v : β → Nat → Value) (ob : β → Obj) (I : β → Prop) : Prop where
  run : ∀ a w, Agree a r → Mem W chg news w → ∃ x, I x ∧ ((execOp a.eval o).run P w = .ok (.value (v x w.heap.size)) (w.alloc (ob x)) ∨ (execOp a.eval o).run P w = .ok (.value (v x w.heap.size)) (w.drew.alloc (ob x)))
section
variable {P : Program} {ops : Array Oper} {Q : Exit → Act → World → Prop} {n : Nat} {r : Regs} {ds : List Deferred} {W : World} {chg news : Blks} {rest : List Oper}
variable {d : Nat} {ty : TypeId} {pos : String} {after : Array Edge} {dst : Option Tmp} {gd : Option (Nat × Bool)}
theorem RunL.newX {β : Type} {o : Oper} {v : β → Nat → Value} {ob : β → Obj} {I : β → Prop} (hv : NewX P r W chg news o v ob I) (hg : guardB ops r o.guard = some true) (hd : o.dst = some d) (hn : Nat.ble (d + 1) n = true)
    (h : ∀ x, I x → ∀ b, RunL P ops Q n rest ((d, v x b) :: r) ds W chg ((b, ob x) :: news)) : RunL P ops Q n (o :: rest) r ds W chg news := fun a w s =>
  wpList_yes (guardB_spec s.agree hg) fun K hK => by
    obtain ⟨x, hx, hr⟩ := hv.run a w s.agree s.mem
    have s2 := s.put (Nat.le_of_ble_eq_true hn) (v x w.heap.size)
    unfold Oper.wp
    rcases hr with hr | hr
    · rw [hr, Oper.upon_value, hd]
      exact hK _ _ (h x hx _ _ _ ⟨s2.size, s2.agree, s2.defers, s.mem.alloc (ob x)⟩)
    · rw [hr, Oper.upon_value, hd]
      exact hK _ _ (h x hx _ _ _ ⟨s2.size, s2.agree, s2.defers, s.mem.drew.alloc (ob x)⟩)
variable {i : Nat} {K : Act → World → Prop}
theorem RunI.newX {β : Type} {o : Oper} {v : β → Nat → Value} {ob : β → Obj} {I : β → Prop} (ho : ops[i]? = some o) (hv : NewX P r W chg news o v ob I) (hg : guardB ops r o.guard = some true) (hd : o.dst = some d) (hn : Nat.ble (d + 1) n = true)
    (h : ∀ x, I x → ∀ b, RunK n K ((d, v x b) :: r) ds W chg ((b, ob x) :: news)) : RunI P ops Q n i K r ds W chg news := fun a w s => by
  obtain ⟨x, hx, hr⟩ := hv.run a w s.agree s.mem
  have s2 := s.put (Nat.le_of_ble_eq_true hn) (v x w.heap.size)
  unfold wpOp
  rcases hr with hr | hr
  · simp only [ho, guardB_spec s.agree hg, if_true, Oper.wp, hr, Oper.upon_value, hd]
    exact .inl (h x hx _ _ _ ⟨s2.size, s2.agree, s2.defers, s.mem.alloc (ob x)⟩)
  · simp only [ho, guardB_spec s.agree hg, if_true, Oper.wp, hr, Oper.upon_value, hd]
    exact .inl (h x hx _ _ _ ⟨s2.size, s2.agree, s2.defers, s.mem.drew.alloc (ob x)⟩)
/-- The bytes of a string, in a block of their own, with some zeros behind. -/
def bytesO (e : TypeId) (l : List Value) (p : Nat) : Obj := Obj.cells (l ++ List.replicate p (Value.int .u8 0)).toArray e (l.length + p, l.length + p + 1)
theorem NewX.bytes {x : Operand} {S T e : TypeId} {l : List UInt8} (hx : rev r x = some (.string (bs l))) (hS : P.underlying S = some .string) (hT : P.underlying T = some (.slice e)) (he : P.underlying e = some (.int .u8)) :
    NewX P r W chg news { dst, op := .convert S T x, type := ty, pos, after, guard := gd } (fun p b => .slice (some ⟨b, 0, none⟩) l.length (l.length + p)) (fun p => bytesO e (l.map byteV) p) (fun _ : Nat => True) :=
  ⟨fun a w ha _ => by
    refine ⟨(Question.appendCap l.length 0 e).cut (w.tape w.drawn (Question.appendCap l.length 0 e)) - l.length, trivial, .inr ?_⟩
    have hc : l.length ≤ (Question.appendCap l.length 0 e).cut (w.tape w.drawn (Question.appendCap l.length 0 e)) := by simp [Question.cut]
    generalize hq : (Question.appendCap l.length 0 e).cut (w.tape w.drawn (Question.appendCap l.length 0 e)) = q at hc ⊢
    have hf : (Question.appendCap l.length 0 e).forced = false := rfl
    have hb : (bs l).size = l.length := rfl
    simp only [execOp, ha.eval hx, convert, Sem.run_bind, run_underlying hS, run_underlying hT, Result.andThen_ok, Sem.run_pure, run_underlying he]
    simp only [Conv.stringToBytes, hb, Sem.run_bind, run_choose_drew, hf, hq, Result.andThen_ok, Sem.run_pure]
    have e1 : Array.map (fun b : UInt8 => Value.int IntKind.u8 (b.toNat : Int)) (bs l).data ++ Array.replicate (q - l.length) (Value.int IntKind.u8 0) = (l.map byteV ++ List.replicate (q - l.length) (Value.int .u8 0)).toArray := by
      simp [bs, byteV]
    have e2 : ((l.map byteV ++ List.replicate (q - l.length) (Value.int .u8 0)).toArray).size = q := by simp; omega
    have e3 : l.length + (q - l.length) = q := by omega
    simp only [Bool.false_eq_true, if_false, Result.andThen_ok, e1]
    generalize hX : (l.map byteV ++ List.replicate (q - l.length) (Value.int .u8 0)).toArray = X at e2 ⊢
    have h4 : (newRow e X).run P w.drew = .ok ⟨w.heap.size, 0, none⟩ (w.drew.alloc (.cells X e)) := by simp [newRow]
    have h5 : (markStringish ⟨w.heap.size, 0, none⟩).run P (w.drew.alloc (.cells X e)) = .ok () (w.drew.alloc (.cells X e (q, q + 1))) := by
      have h6 : (w.drew.alloc (.cells X e)).shape? w.heap.size = some (e, q) := by
        have h8 : (w.drew.alloc (.cells X e)).heap[w.heap.size]? = some (.cells X e) := by
          show (w.heap.push (Obj.cells X e))[w.heap.size]? = _
          simp
        unfold World.shape?
        rw [h8]
        simp only [e2]
      have h7 : (w.drew.alloc (.cells X e)).freeze { block := w.heap.size, off := q } 1 = w.drew.alloc (.cells X e (q, q + 1)) := by
        unfold World.freeze
        rw [if_neg (by decide)]
        show ({ w with drawn := w.drawn + 1, heap := (w.heap.push (Obj.cells X e)).modify w.heap.size _ } : World) = { w with drawn := w.drawn + 1, heap := w.heap.push (Obj.cells X e (q, q + 1)) }
        congr 1
        refine Array.ext (by simp) fun i h1 h2 => ?_
        simp only [Array.getElem_modify]
        by_cases hi : w.heap.size = i
        · subst hi; simp
        · have : i < w.heap.size := by simp at h2; omega
          simp [hi, Array.getElem_push, this]
      simp [markStringish, h6, h7]
    simp only [h4, Result.andThen_ok, h5, e3]
    subst hX
    simp [bytesO, e3]⟩
/-! ### Operations on strings -/
/-- A call of a function without a body, that the model knows. -/
theorem Val.ext {f : FuncId} {fn : Func} {e : Array Value → Sem Value} {xs : List Operand} {vs : List Value} {ats : Array TypeId} {v : Value} (hf : P.funcs[f]? = some fn) (hname : (fn.name == "runtime.NumGoroutine") = false) (hb : fn.body.isNone = true) (hn : Extern.findNext fn = none) (he : Extern.find fn = some e)
    (hx : revs r xs = some vs) (hv : ∀ w, (e vs.toArray).run P w = .ok v w) :
    Val P r W chg news { dst, op := .call { callee := .value (.func f), args := xs.toArray, argTypes := ats }, type := ty, pos, after, guard := gd } v :=
  ⟨fun a w ha _ => by
    have h1 := ha.evals hx
    have h2 := run_callFunc_extern hf hname hb hn he vs.toArray w
    rw [hv w] at h2
    simp [execOp, resolve, h1, Deferred.ofValue, Act.eval, invoke]
    exact h2⟩
theorem Val.lenS {x : Operand} {T : TypeId} {l : List UInt8} (hx : rev r x = some (.string (bs l))) (hT : P.underlying T = some .string) {ats : Array TypeId} (_h : ats = #[T] := by rfl) :
    Val P r W chg news { dst, op := .call { callee := .builtin .len, args := #[x], argTypes := ats }, type := ty, pos, after, guard := gd } (.int .i64 (l.length : Int)) := by
  subst _h
  exact Val.len_str hx hT
theorem Val.strIndex {x y : Operand} {T : TypeId} {l : List UInt8} {k : IntKind} {i : Int} {c : UInt8} (hx : rev r x = some (.string (bs l))) (hy : rev r y = some (.int k i)) (hT : P.underlying T = some .string) (h0 : 0 ≤ i) (hc : l[i.toNat]? = some c) :
    Val P r W chg news { dst, op := .index T x y, type := ty, pos, after, guard := gd } (byteV c) :=
  ⟨fun a w ha _ => by
    obtain ⟨hi, he⟩ := List.getElem?_eq_some_iff.1 hc
    have h1 := run_index_string (P := P) w T (bs l) k i hT
    rw [dif_pos ⟨h0, by rw [bs_size]; omega⟩] at h1
    have h2 : (bs l)[i.toNat]'(by rw [bs_size]; exact hi) = c := he
    rw [h2] at h1
    simp [execOp, ha.eval hx, ha.eval hy, h1, byteV]⟩
theorem Val.mulN {x y : Operand} {T yt : TypeId} {k : IntKind} {a b : Nat} (c : Nat) (hx : rev r x = some (.int k (a : Int))) (hy : rev r y = some (.int k (b : Int))) (hc : a * b = c) (hr : k.wrap (c : Int) = (c : Int)) :
    Val P r W chg news { dst, op := .binOp .mul T x y yt, type := ty, pos, after, guard := gd } (.int k (c : Int)) := by
  subst hc
  have h := Val.mul (P := P) (W := W) (chg := chg) (news := news) (dst := dst) (ty := ty) (pos := pos) (after := after) (gd := gd) (T := T) (yt := yt) hx hy (by rw [← Int.natCast_mul]; exact hr)
  rw [← Int.natCast_mul] at h
  exact h
theorem Val.nilIface {x : Operand} {t : TypeId} {v : Value} (hx : rev r x = some (.iface t v)) : Val P r W chg news { dst, op := .nilCheck x, type := ty, pos, after, guard := gd } (.iface t v) :=
  ⟨fun a w ha _ => by simp [execOp, ha.eval hx]⟩
/-- An array of elements of more cells: of how many, and how large they are. -/
def arrNB (P : Program) (T : TypeId) : Option (Nat × Nat) :=
  match P.underlying T with
  | some (.array n e) => match P.underlying e with
    | some d => if isAggD d then (P.info? e).map fun j => (n, j.size) else none
    | none => none
  | _ => none
theorem Val.indexN {x y : Operand} {T : TypeId} {len sz : Nat} {cs vs : List Value} {k : IntKind} {i : Int} (hx : rev r x = some (.agg cs.toArray)) (hy : rev r y = some (.int k i)) (hT : arrNB P T = some (len, sz)) (h0 : 0 ≤ i) (h1 : i < len) (hv : (cs.drop (i.toNat * sz)).take sz = vs) :
    Val P r W chg news { dst, op := .index T x y, type := ty, pos, after, guard := gd } (.agg vs.toArray) :=
  ⟨fun a w ha _ => by
    unfold arrNB at hT
    split at hT
    · rename_i n e hu
      split at hT
      · rename_i d hd
        split at hT
        · rename_i hag
          cases hj : P.info? e with
          | none => simp [hj] at hT
          | some j =>
            simp [hj] at hT
            obtain ⟨rfl, rfl⟩ := hT
            have h2 : (isAgg e).run P w = .ok true w := by
              cases d <;> simp [isAggD] at hag <;> simp [isAgg, run_underlying hd]
            have hp : (part e cs.toArray (i.toNat * j.size)).run P w = .ok (.agg vs.toArray) w := by
              simp [part, h2, sizeOf, typeInfo, hj]
              exact hv
            simp [execOp, ha.eval hx, ha.eval hy, Instr.index, asIntOf, run_underlying hu, h0, h1, sizeOf, typeInfo, hj, hp]
        · cases hT
      · cases hT
    · cases hT⟩
theorem run_sliceBound {v : Value} {k : IntKind} {m : Nat} {y : Nat} {code : BoundsCode} {w : World} (hv : v = Value.int k (m : Int)) (h : m ≤ y) : (Instr.sliceBound v y code).run P w = .ok m w := by
  subst hv
  have h1 : (0 : Int) ≤ (m : Int) ∧ (m : Int) ≤ (y : Int) := ⟨by omega, by omega⟩
  simp [Instr.sliceBound, asIntOf, h1]
theorem Val.strSlice {x lo hi : Operand} {T : TypeId} {l : List UInt8} {k k' : IntKind} {a b : Nat} (hx : rev r x = some (.string (bs l))) (hlo : rev r lo = some (.int k a)) (hhi : rev r hi = some (.int k' b)) (hT : P.underlying T = some .string) (hab : a ≤ b) (hb : b ≤ l.length) :
    Val P r W chg news { dst, op := .slice T x (some lo) (some hi) none, type := ty, pos, after, guard := gd } (.string (bs ((l.drop a).take (b - a)))) :=
  ⟨fun ac w ha _ => by
    simp [execOp, ha.eval hx, ha.eval hlo, ha.eval hhi, Instr.sliceAt, Instr.slice, Instr.sliceBounds, run_underlying hT, run_sliceBound (P := P) (y := (bs l).size) (w := w) (v := Value.int k' (b : Int)) rfl (by rw [bs_size]; exact hb), run_sliceBound (P := P) (y := b) (w := w) (v := Value.int k (a : Int)) rfl hab, bs_extract]⟩
theorem Val.strTo {x hi : Operand} {T : TypeId} {l : List UInt8} {k' : IntKind} {b : Nat} (hx : rev r x = some (.string (bs l))) (hhi : rev r hi = some (.int k' b)) (hT : P.underlying T = some .string) (hb : b ≤ l.length) :
    Val P r W chg news { dst, op := .slice T x none (some hi) none, type := ty, pos, after, guard := gd } (.string (bs (l.take b))) :=
  ⟨fun ac w ha _ => by
    simp [execOp, ha.eval hx, ha.eval hhi, Instr.sliceAt, Instr.slice, Instr.sliceBounds, run_underlying hT, run_sliceBound (P := P) (y := (bs l).size) (w := w) (v := Value.int k' (b : Int)) rfl (by rw [bs_size]; exact hb), bs_extract]⟩
theorem Val.strFrom {x lo : Operand} {T : TypeId} {l : List UInt8} {k : IntKind} {a : Nat} (hx : rev r x = some (.string (bs l))) (hlo : rev r lo = some (.int k a)) (hT : P.underlying T = some .string) (ha' : a ≤ l.length) :
    Val P r W chg news { dst, op := .slice T x (some lo) none none, type := ty, pos, after, guard := gd } (.string (bs (l.drop a))) :=
  ⟨fun ac w ha _ => by
    have e : (l.drop a).take ((bs l).size - a) = l.drop a := by rw [bs_size]; exact List.take_of_length_le (by simp)
    simp [execOp, ha.eval hx, ha.eval hlo, Instr.sliceAt, Instr.slice, Instr.sliceBounds, run_underlying hT, run_sliceBound (P := P) (y := (bs l).size) (w := w) (v := Value.int k (a : Int)) rfl (by rw [bs_size]; exact ha'), bs_extract, e]⟩
theorem Val.strAdd {x y : Operand} {T yt : TypeId} {a b : List UInt8} (hx : rev r x = some (.string (bs a))) (hy : rev r y = some (.string (bs b))) (h : a.length + b.length ≤ 9223372036854775807) :
    Val P r W chg news { dst, op := .binOp .add T x y yt, type := ty, pos, after, guard := gd } (.string (bs (a ++ b))) :=
  ⟨fun ac w ha _ => by
    have h1 : ¬ (((bs a).size + (bs b).size : Nat) : Int) > IntKind.i64.max := by
      rw [bs_size, bs_size]
      have : IntKind.i64.max = 9223372036854775807 := by decide
      omega
    have h2 : (Op.stringOp .add (bs a) (bs b)).run P w = .ok (.string (bs (a ++ b))) w := by
      unfold Op.stringOp
      simp only [if_neg h1, Sem.run_pure, bs_append]
    simp [execOp, ha.eval hx, ha.eval hy, eqGuard, binOp_string_add, h2]⟩
theorem Val.eqlStr {x y : Operand} {T yt : TypeId} {a b : List UInt8} (hx : rev r x = some (.string (bs a))) (hy : rev r y = some (.string (bs b))) :
    Val P r W chg news { dst, op := .binOp .eql T x y yt, type := ty, pos, after, guard := gd } (.bool (decide (a = b))) :=
  ⟨fun ac w ha _ => by
    have e : (a == b) = decide (a = b) := by rw [Bool.eq_iff_iff]; simp
    simp [execOp, ha.eval hx, ha.eval hy, eqGuard, binOp_string_eql, bs_toList, e]⟩
theorem Val.neqStr {x y : Operand} {T yt : TypeId} {a b : List UInt8} (hx : rev r x = some (.string (bs a))) (hy : rev r y = some (.string (bs b))) :
    Val P r W chg news { dst, op := .binOp .neq T x y yt, type := ty, pos, after, guard := gd } (.bool (!decide (a = b))) :=
  ⟨fun ac w ha _ => by
    have e : (a == b) = decide (a = b) := by rw [Bool.eq_iff_iff]; simp
    simp [execOp, ha.eval hx, ha.eval hy, eqGuard, binOp_string_neq, bs_toList, e]⟩
end
/-! ### Maps whose keys are pairs of numbers -/
def pk (p : Nat × Nat) : Value := .agg #[.int .i64 (p.1 : Int), .int .u64 (p.2 : Int)]
def entsG : Nat → List ((Nat × Nat) × Value) → List MapEntry
  | _, [] => []
  | i, x :: l => { key := pk x.1, val := x.2, born := i } :: entsG (i + 1) l
def mapG (l : List ((Nat × Nat) × Value)) : Obj := .map (entsG 0 l).toArray l.length
def gIdx : List ((Nat × Nat) × Value) → Nat × Nat → Option (Nat × Value)
  | [], _ => none
  | x :: l, a => if x.1 = a then some (0, x.2) else (gIdx l a).map fun p => (p.1 + 1, p.2)
def gFind (l : List ((Nat × Nat) × Value)) (a : Nat × Nat) : Option Value := (gIdx l a).map (·.2)
theorem entsG_snoc : ∀ (l : List ((Nat × Nat) × Value)) (i : Nat) (x : (Nat × Nat) × Value), entsG i (l ++ [x]) = entsG i l ++ [{ key := pk x.1, val := x.2, born := i + l.length }]
  | [], i, x => by simp [entsG]
  | y :: l, i, x => by
    simp only [List.cons_append, entsG, entsG_snoc l (i + 1) x, List.length_cons]
    rw [show i + 1 + l.length = i + (l.length + 1) by omega]
theorem gFind_mem {l : List ((Nat × Nat) × Value)} {a : Nat × Nat} {v : Value} (h : gFind l a = some v) : (a, v) ∈ l := by
  induction l with
  | nil => cases h
  | cons x l ih =>
    unfold gFind gIdx at h
    split at h
    · rename_i hx
      simp at h
      subst hx h
      simp
    · rw [Option.map_map] at h
      have h2 : gFind l a = some v := by
        unfold gFind
        cases hg : gIdx l a with
        | none => rw [hg] at h; cases h
        | some p => rw [hg] at h; simpa using h
      exact List.mem_cons_of_mem _ (ih h2)
theorem gIdx_none {l : List ((Nat × Nat) × Value)} {a : Nat × Nat} (h : ∀ e ∈ l, e.1 ≠ a) : gIdx l a = none := by
  induction l with
  | nil => rfl
  | cons x l ih =>
    unfold gIdx
    rw [if_neg (h x (by simp)), ih (fun e he => h e (List.mem_cons_of_mem _ he))]
    rfl
theorem gIdx_absent {l : List ((Nat × Nat) × Value)} {a : Nat × Nat} (h : gFind l a = none) : ∀ e ∈ l, e.1 ≠ a := by
  induction l with
  | nil => intro e he; cases he
  | cons x l ih =>
    unfold gFind gIdx at h
    split at h
    · simp at h
    · rename_i hx
      intro e he
      rcases List.mem_cons.1 he with rfl | he
      · exact hx
      · refine ih ?_ e he
        unfold gFind
        cases hg : gIdx l a with
        | none => rfl
        | some p => rw [hg] at h; simp at h
def keyPairB (P : Program) (k : TypeId) : Bool := match P.underlying k with
  | some (.struct fs) => match fs.toList with
    | [f, g] => decide (f.name ≠ "_") && decide (g.name ≠ "_") && f.offset == 0 && g.offset == 1 && (P.underlying f.type).any isIntD && (P.underlying g.type).any isIntD
    | _ => false
  | _ => false
def mapKB (P : Program) (T : TypeId) : Option (TypeId × TypeId) := match P.underlying T with
  | some (.map k e) => some (k, e)
  | _ => none
structure Keyed (P : Program) (T k E : TypeId) : Prop where
  map : mapKB P T = some (k, E)
  fields : keyPairB P k = true
  agg : aggB P k = true
  eq : ∀ a b c d : Int, eqF P 8 k [.int .i64 a, .int .u64 b] [.int .i64 c, .int .u64 d] = some (decide (a = c) && (decide (b = d) && true))
section
variable {P : Program} {ops : Array Oper} {Q : Exit → Act → World → Prop} {n : Nat} {r : Regs} {ds : List Deferred} {W : World} {chg news : Blks} {rest : List Oper}
variable {d : Nat} {ty : TypeId} {pos : String} {after : Array Edge} {dst : Option Tmp} {gd : Option (Nat × Bool)}
theorem Keyed.und {T k E : TypeId} (h : Keyed P T k E) : P.underlying T = some (.map k E) := by
  have := h.map
  unfold mapKB at this
  split at this
  · rename_i hu; cases this; exact hu
  · cases this
theorem Keyed.str {T k E : TypeId} (h : Keyed P T k E) : ∃ f g q q', P.underlying k = some (.struct #[f, g]) ∧ f.name ≠ "_" ∧ g.name ≠ "_" ∧ f.offset = 0 ∧ g.offset = 1 ∧ P.underlying f.type = some (.int q) ∧ P.underlying g.type = some (.int q') := by
  have h1 := h.fields
  unfold keyPairB at h1
  split at h1
  · rename_i fs hu
    split at h1
    · rename_i f g hfs
      simp only [Bool.and_eq_true, decide_eq_true_eq, beq_iff_eq] at h1
      obtain ⟨⟨⟨⟨⟨a1, a2⟩, a3⟩, a4⟩, a5⟩, a6⟩ := h1
      obtain ⟨q, hq⟩ := any_int a5
      obtain ⟨q', hq'⟩ := any_int a6
      have e : fs = #[f, g] := by
        have := congrArg List.toArray hfs
        simpa using this
      exact ⟨f, g, q, q', by rw [hu, e], a1, a2, a3, a4, hq, hq'⟩
    · cases h1
  · cases h1
theorem Keyed.same {T k E : TypeId} (h : Keyed P T k E) (a b : Nat × Nat) (w : World) : (Op.equal k (pk a) (pk b)).run P w = .ok (decide (a = b)) w := by
  have h1 := run_eqF 9992 8 k _ _ _ w (h.eq (a.1 : Int) (a.2 : Int) (b.1 : Int) (b.2 : Int))
  rw [(aggB_spec h.agg _).2, (aggB_spec h.agg _).2] at h1
  have e : decide (a = b) = (decide ((a.1 : Int) = b.1) && (decide ((a.2 : Int) = b.2) && true)) := by
    rw [Bool.eq_iff_iff]
    simp only [Bool.and_eq_true, decide_eq_true_eq, and_true, Prod.ext_iff]
    omega
  rw [e]
  exact h1
theorem Keyed.check {T k E : TypeId} (h : Keyed P T k E) (e : Bool) (a : Nat × Nat) (w : World) : (Instr.checkKey e 10000 k (pk a)).run P w = .ok () w := by
  obtain ⟨f, g, q, q', hu, n1, n2, o1, o2, u1, u2⟩ := h.str
  have hi : ∀ (t : TypeId) (q : IntKind) (kk : IntKind) (v : Int), P.underlying t = some (.int q) → (Instr.checkKey e 9999 t (.int kk v)).run P w = .ok () w := fun t q kk v hq => by
    rw [show (9999 : Nat) = 9998 + 1 from rfl]
    unfold Instr.checkKey
    simp [run_underlying hq]
  have p1 : (part f.type #[.int .i64 (a.1 : Int), .int .u64 (a.2 : Int)] 0).run P w = .ok (.int .i64 (a.1 : Int)) w := run_part1 u1 rfl rfl
  have p2 : (part g.type #[.int .i64 (a.1 : Int), .int .u64 (a.2 : Int)] 1).run P w = .ok (.int .u64 (a.2 : Int)) w := run_part1 u2 rfl rfl
  rw [show (10000 : Nat) = 9999 + 1 from rfl]
  unfold Instr.checkKey pk
  simp [run_underlying hu, n1, n2, o1, o2, p1, p2, hi _ _ _ _ u1, hi _ _ _ _ u2]
theorem Keyed.asking {T k E : TypeId} (h : Keyed P T k E) (a : Nat × Nat) (w : World) : ∀ (l : List ((Nat × Nat) × Value)) (i j : Nat), (Instr.findAsking k (pk a) (entsG i l) j).run P w = .ok ((gIdx l a).map fun p => (j + p.1, p.2)) w
  | [], _, _ => rfl
  | x :: l, i, j => by
    unfold entsG Instr.findAsking gIdx
    have h1 := h.same a x.1 w
    by_cases hx : x.1 = a
    · subst hx
      simp at h1
      simp [h1]
    · have hx2 : ¬ a = x.1 := fun e => hx e.symm
      simp only [hx2, decide_false] at h1
      simp only [Sem.run_bind, h1, Result.andThen_ok, Bool.false_eq_true, if_false, if_neg hx, Keyed.asking h a w l (i + 1) (j + 1)]
      cases gIdx l a with
      | none => rfl
      | some p => simp; omega
theorem Keyed.find {T k E : TypeId} (h : Keyed P T k E) (a : Nat × Nat) (l : List ((Nat × Nat) × Value)) (w : World) : (Instr.findKey k (pk a) (entsG 0 l)).run P w = .ok (gIdx l a) w := by
  obtain ⟨f, g, q, q', hu, _⟩ := h.str
  have h2 := h.asking a w l 0 0
  have e : ((gIdx l a).map fun p => (0 + p.1, p.2)) = gIdx l a := by cases gIdx l a <;> simp
  rw [e] at h2
  cases l with
  | nil => simp [Instr.findKey, run_underlying hu, entsG, Instr.findNow, gIdx]
  | cons x l =>
    have h3 : Instr.findNow (.struct #[f, g]) (pk a) (entsG 0 (x :: l)) 0 = none := by
      unfold entsG Instr.findNow
      rfl
    simp [Instr.findKey, run_underlying hu, h3, h2]
theorem Val.lookupG {x i : Operand} {T k E : TypeId} {b : Nat} {l : List ((Nat × Nat) × Value)} {a : Nat × Nat} {z : Value} (hx : rev r x = some (.map (some b))) (hi : rev r i = some (pk a)) (hb : ∀ w, Mem W chg news w → w.heap[b]? = some (mapG l)) (hT : Keyed P T k E) (hz : zeroV P E = some z) :
    Val P r W chg news { dst, op := .lookup T x i true, type := ty, pos, after, guard := gd } (.tuple #[(gFind l a).getD z, .bool (gFind l a).isSome]) :=
  ⟨fun ac w ha hm => by
    have hbb : w.heap[b]? = some (.map (entsG 0 l).toArray l.length) := hb w hm
    have hzz : (zeroValue E).run P w = .ok z w := by
      unfold zeroV at hz
      cases hi : P.info? E with
      | none => simp [hi] at hz
      | some i =>
        simp [hi] at hz
        simp [zeroValue, typeInfo, hi, hz]
    unfold gFind
    simp only [execOp, ha.eval hx, ha.eval hi, Instr.lookup, Sem.run_bind, run_underlying hT.und, Result.andThen_ok, MapKept.run_getObj_map hbb, Sem.run_pure, hT.check, hT.find]
    cases h : gIdx l a with
    | none => simp [hzz]
    | some p => simp⟩
theorem run_mapUpdate_G {w : World} {T k E : TypeId} {b : Nat} {l : List ((Nat × Nat) × Value)} {a : Nat × Nat} {v : Value} (hb : w.heap[b]? = some (mapG l)) (hT : Keyed P T k E) (hk : gIdx l a = none) :
    (Instr.mapUpdate T (.map (some b)) (pk a) v).run P w = .ok () { w with heap := w.heap.setIfInBounds b (mapG (l ++ [(a, v)])) } := by
  have e1 : mapG (l ++ [(a, v)]) = .map ((entsG 0 l).toArray.push { key := pk a, val := v, born := l.length }) (l.length + 1) := by
    unfold mapG
    rw [entsG_snoc]
    simp
  unfold mapG at hb
  rw [e1]
  have hf := hT.find a l w
  rw [hk] at hf
  simp only [Instr.mapUpdate, Sem.run_bind, run_underlying hT.und, Result.andThen_ok, MapKept.run_getObj_map hb, hT.check, hf, MapKept.run_setObj_map _ hb]
theorem Sto.mapG_chg {x i y : Operand} {T k E : TypeId} {b : Nat} {l : List ((Nat × Nat) × Value)} {a : Nat × Nat} {v : Value} {chg' : Blks} (hx : rev r x = some (.map (some b))) (hi : rev r i = some (pk a)) (hy : rev r y = some v) (hu : Upd chg b (mapG l) (mapG (l ++ [(a, v)])) chg') (hT : Keyed P T k E) (hk : gIdx l a = none) :
    Sto P r W chg news { dst, op := .mapUpdate T x i y, type := ty, pos, after, guard := gd } chg' news :=
  ⟨fun ac w ha hm => by
    have hb := (hm.chgd _ _ hu.mem).2
    obtain ⟨s1, s2⟩ := heap_set_spec (o' := mapG (l ++ [(a, v)])) hb
    refine ⟨{ w with heap := w.heap.setIfInBounds b (mapG (l ++ [(a, v)])) }, by simp [execOp, ha.eval hx, ha.eval hi, ha.eval hy, run_mapUpdate_G hb hT hk], hm.upd_chg hu rfl rfl rfl (by simp) (fun k _ hk => s2 k hk) s1⟩⟩
theorem New.makeMapG {T : TypeId} : New P r W chg news { dst, op := .makeMap T none, type := ty, pos, after, guard := gd } (fun b => .map (some b)) (mapG []) :=
  ⟨fun a w _ _ => by simp [execOp, Instr.makeMap, newObj, Sem.run, mapG, entsG]⟩
end
end Go.Eng
/- The engine: calls that turn a block into one of some. No program is in sight. -/
namespace Go.Eng
open Go Go.RowKit
/-- It hands back one of some values; one block that lay there is what goes with it. -/
def TurnsZ {β : Type} (b : Nat) (ob : β → Obj) (v : β → Value) (I : β → Prop) (W : World) (e : Ending) (w : World) : Prop := ∃ x, I x ∧ e = .returned (v x) ∧ Mem W [(b, ob x)] [] w
section
variable {P : Program} {ops : Array Oper} {Q : Exit → Act → World → Prop} {n : Nat} {r : Regs} {ds : List Deferred} {W : World} {chg news : Blks} {rest : List Oper} {d : Nat}
theorem RunL.callZ {β : Type} {o : Oper} {f : FuncId} {args : Array Value} {v : β → Value} {I : β → Prop} {b : Nat} {o0 : Obj} {ob : β → Obj} {nf : β → Blks} (hi : IsCall P r o f args) (hg : guardB ops r o.guard = some true) (hd : o.dst = some d) (hn : Nat.ble (d + 1) n = true)
    (hu : ∀ x, Upd news b o0 (ob x) (nf x)) (hc : ∀ w, Mem W chg news w → Calls P f args w (TurnsZ b ob v I w)) (h : ∀ x, I x → RunL P ops Q n rest ((d, v x) :: r) ds W chg (nf x)) : RunL P ops Q n (o :: rest) r ds W chg news :=
  RunL.call hg hd (fun a w s => hi.runs a w s.agree) hc (fun a w e w' s hR => by
    obtain ⟨x, hx, rfl, hm⟩ := hR
    have s2 := s.put (Nat.le_of_ble_eq_true hn) (v x)
    exact h x hx _ _ ⟨s2.size, s2.agree, s2.defers, s.mem.turn_new (hu x) hm⟩)
theorem RunL.callZ_chg {β : Type} {o : Oper} {f : FuncId} {args : Array Value} {v : β → Value} {I : β → Prop} {b : Nat} {o0 : Obj} {ob : β → Obj} {cf : β → Blks} (hi : IsCall P r o f args) (hg : guardB ops r o.guard = some true) (hd : o.dst = some d) (hn : Nat.ble (d + 1) n = true)
    (hu : ∀ x, Upd chg b o0 (ob x) (cf x)) (hc : ∀ w, Mem W chg news w → Calls P f args w (TurnsZ b ob v I w)) (h : ∀ x, I x → RunL P ops Q n rest ((d, v x) :: r) ds W (cf x) news) : RunL P ops Q n (o :: rest) r ds W chg news :=
  RunL.call hg hd (fun a w s => hi.runs a w s.agree) hc (fun a w e w' s hR => by
    obtain ⟨x, hx, rfl, hm⟩ := hR
    have s2 := s.put (Nat.le_of_ble_eq_true hn) (v x)
    exact h x hx _ _ ⟨s2.size, s2.agree, s2.defers, s.mem.turn_chg (hu x) hm⟩)
variable {K : Act → World → Prop} {i : Nat}
theorem RunI.callZ {β : Type} {o : Oper} {f : FuncId} {args : Array Value} {v : β → Value} {I : β → Prop} {b : Nat} {o0 : Obj} {ob : β → Obj} {nf : β → Blks} (ho : ops[i]? = some o) (hi : IsCall P r o f args) (hg : guardB ops r o.guard = some true) (hd : o.dst = some d) (hn : Nat.ble (d + 1) n = true)
    (hu : ∀ x, Upd news b o0 (ob x) (nf x)) (hc : ∀ w, Mem W chg news w → Calls P f args w (TurnsZ b ob v I w)) (h : ∀ x, I x → RunK n K ((d, v x) :: r) ds W chg (nf x)) : RunI P ops Q n i K r ds W chg news :=
  RunI.call ho hi hg hc (fun a w e w' s hR => by
    obtain ⟨x, hx, rfl, hm⟩ := hR
    have s2 := s.put (Nat.le_of_ble_eq_true hn) (v x)
    simp only [hd]
    exact h x hx _ _ ⟨s2.size, s2.agree, s2.defers, s.mem.turn_new (hu x) hm⟩)
theorem RunI.callZ_chg {β : Type} {o : Oper} {f : FuncId} {args : Array Value} {v : β → Value} {I : β → Prop} {b : Nat} {o0 : Obj} {ob : β → Obj} {cf : β → Blks} (ho : ops[i]? = some o) (hi : IsCall P r o f args) (hg : guardB ops r o.guard = some true) (hd : o.dst = some d) (hn : Nat.ble (d + 1) n = true)
    (hu : ∀ x, Upd chg b o0 (ob x) (cf x)) (hc : ∀ w, Mem W chg news w → Calls P f args w (TurnsZ b ob v I w)) (h : ∀ x, I x → RunK n K ((d, v x) :: r) ds W (cf x) news) : RunI P ops Q n i K r ds W chg news :=
  RunI.call ho hi hg hc (fun a w e w' s hR => by
    obtain ⟨x, hx, rfl, hm⟩ := hR
    have s2 := s.put (Nat.le_of_ble_eq_true hn) (v x)
    simp only [hd]
    exact h x hx _ _ ⟨s2.size, s2.agree, s2.defers, s.mem.turn_chg (hu x) hm⟩)
theorem RunE.retZ {β : Type} {fn : Func} {b : Nat} {ob : β → Obj} {o : Obj} {v : β → Value} {I : β → Prop} (x : β) (hx : I x) {u : Value} (ho : o = ob x) (hv : ResVs P r ([(b, o)] ++ news) fn u) (he : u = v x) : RunE (bodyPost P fn (TurnsZ b ob v I W)) n .ret r [] W [(b, o)] news :=
  RunE.ret (chg := [(b, o)]) hv (fun _ hm => ⟨x, hx, by rw [he], by rw [← ho]; exact hm.drop⟩)
theorem run_equal_slice_nil {w : World} {T e : TypeId} {b : Addr} {k c : Nat} (hT : P.underlying T = some (.slice e)) : (Op.equal T (.slice (some b) k c) (.slice none 0 0)).run P w = .ok false w := by
  have h : ∀ d, (Op.equalIn (d + 1) T (.slice (some b) k c) (.slice none 0 0)).run P w = .ok false w := fun d => by simp [Op.equalIn, run_underlying hT]
  exact h 9999
variable {ty : TypeId} {pos : String} {after : Array Edge} {dst : Option Tmp} {gd : Option (Nat × Bool)}
theorem Val.eqlSlNil {x : Operand} {T yt e : TypeId} {b : Addr} {k c : Nat} (hx : rev r x = some (.slice (some b) k c)) (hT : P.underlying T = some (.slice e)) :
    Val P r W chg news { dst, op := .binOp .eql T x (.const (.slice none 0 0)) yt, type := ty, pos, after, guard := gd } (.bool false) :=
  ⟨fun a w ha _ => by
    have h := run_equal_slice_nil (P := P) (w := w) (b := b) (k := k) (c := c) hT
    simp [execOp, ha.eval hx, BigFrame.eval_const, eqGuard, binOp, h]⟩
theorem Take.app {x : Nat × Obj} {l l' : Blks} (h : Take x l l') : ∀ a : Blks, Take x (a ++ l) (a ++ l')
  | [] => h
  | _ :: a => .there (Take.app h a)
theorem Pick.appR {r l : Blks} (a : Blks) (h : Pick r l) : Pick r (a ++ l) := by
  induction h with
  | nil => exact .nil
  | cons h he _ ih => exact .cons (h.app a) he ih
theorem Pick.app {r l : Blks} (h : Pick r l) : ∀ a : Blks, Pick (a ++ r) (a ++ l)
  | [] => h
  | (_, _) :: a => .cons .here rfl (Pick.app h a)
end
end Go.Eng
/- The engine: strings of runes and of bytes. No program is in sight. -/
namespace Go.Eng
open Go Go.RowKit
theorem i32_in {p : Int} (h0 : 0 ≤ p) (h1 : p < 2147483648) : IntKind.i32.wrap p = p := by
  have := IntWalk.i32_in p ⟨by omega, by omega⟩
  exact this
theorem enc_ascii {c : Nat} (h : c < 128) : Utf8.encode (c : Int) = bs [UInt8.ofNat c] := by
  have h1 : Utf8.valid (c : Int) = true := by
    unfold Utf8.valid
    simp only [Bool.or_eq_true, Bool.and_eq_true, decide_eq_true_eq]
    left
    omega
  unfold Utf8.encode
  rw [if_pos h1]
  have h2 : (c : Int).toNat = c := by omega
  rw [h2]
  simp only [h, if_true, bs]
theorem bytes_fold : ∀ (l : List UInt8) (s : ByteArray), (l.map fun c => (c.toNat : Int)).foldl (fun r n => r.push (UInt8.ofNat n.toNat)) s = ⟨s.data ++ l.toArray⟩
  | [], s => by simp
  | c :: l, s => by
    rw [List.map_cons, List.foldl_cons, bytes_fold l]
    have h1 : UInt8.ofNat (c.toNat : Int).toNat = c := by simp
    rw [h1]
    simp [ByteArray.push]
section
variable {P : Program} {r : Regs} {W : World} {chg news : Blks} {dst : Option Tmp} {gd : Option (Nat × Bool)} {ty : TypeId} {pos : String} {after : Array Edge}
theorem Val.runeStr {x : Operand} {S T : TypeId} {ks k : IntKind} {c : Nat} (hx : rev r x = some (.int ks (c : Int))) (hS : P.underlying S = some (.int k)) (hT : P.underlying T = some .string) (hc : c < 128) :
    Val P r W chg news { dst, op := .convert S T x, type := ty, pos, after, guard := gd } (.string (bs [UInt8.ofNat c])) :=
  ⟨fun a w ha hm0 => by simp [execOp, ha.eval hx, convert, run_underlying hS, run_underlying hT, Conv.intToString, enc_ascii hc]⟩
theorem bytes_flat : ∀ l : List UInt8, (l.map fun c => [byteV c]).flatten = l.map byteV
  | [] => rfl
  | c :: l => by rw [List.map_cons, List.flatten_cons, bytes_flat l]; rfl
theorem run_bytesStr {S T e : TypeId} {w : World} {p : Option Addr} {b o cap : Nat} {l : List UInt8} (hS : P.underlying S = some (.slice e)) (he : P.underlying e = some (.int .u8)) (hT : P.underlying T = some .string)
    (h : Sl w p b o 1 (l.map fun c => [byteV c])) : (convert S T (.slice p l.length cap)).run P w = .ok (.string (bs l)) w := by
  rw [run_convert_bytes_string w S T e p l.length cap hS he hT]
  have hfl := bytes_flat l
  match p, h with
  | none, h =>
    have : l = [] := by
      cases l with
      | nil => rfl
      | cons c l => have := h.at' (by simp); cases this
    subst this
    rfl
  | some ad, h =>
    have h1 := run_loadCells_list (P := P) w ad (l.map byteV) (fun j v hj => by
      obtain ⟨ad', e1, e2⟩ := h.flat (by decide) j v (by rw [hfl]; exact hj)
      cases e1
      exact e2)
    have h2 := run_bytesToString (P := P) w ad l.length cap (l.map fun c => (c.toNat : Int)) (by
      have e1 : l.map byteV = (l.map fun c => (c.toNat : Int)).map (Value.int .u8) := by rw [List.map_map]; rfl
      rw [List.length_map] at h1
      rw [h1, e1])
    rw [h2, bytes_fold]
    simp [bs, ByteArray.empty, ByteArray.emptyWithCapacity]
    rfl
theorem Val.bytesStr {x : Operand} {S T e : TypeId} {p : Option Addr} {b o cap : Nat} {l : List UInt8} (hx : rev r x = some (.slice p l.length cap)) (hS : P.underlying S = some (.slice e)) (he : P.underlying e = some (.int .u8)) (hT : P.underlying T = some .string)
    (h : ∀ w, Mem W chg news w → Sl w p b o 1 (l.map fun c => [byteV c])) : Val P r W chg news { dst, op := .convert S T x, type := ty, pos, after, guard := gd } (.string (bs l)) :=
  ⟨fun a w ha hm0 => by
    have h1 := run_bytesStr (P := P) (S := S) (T := T) (cap := cap) hS he hT (h w hm0)
    simp [execOp, ha.eval hx, h1]⟩
theorem Val.len_own {x : Operand} {T e : TypeId} {sz s2 n : Nat} {z : Own} {xs : List Value} (hx : rev r x = some (ownV z n)) (hT : slB P T = some (e, sz)) (h : OwnOk s2 z n xs) :
    Val P r W chg news { dst, op := .call { callee := .builtin .len, args := #[x], argTypes := #[T] }, type := ty, pos, after, guard := gd } (.int .i64 (n : Int)) := by
  rw [ownV_slice h] at hx
  exact Val.len_sl hx hT
theorem RunL.callNA {ops : Array Oper} {Q : Exit → Act → World → Prop} {n : Nat} {ds : List Deferred} {rest : List Oper} {d : Nat} {β : Type} {o : Oper} {f : FuncId} {args : Array Value} {v : β → Value} {U : β → Blks} (A T : Blks) (hne : news = A ++ T) (hi : IsCall P r o f args) (hg : guardB ops r o.guard = some true) (hd : o.dst = some d) (hn : Nat.ble (d + 1) n = true)
    (hc : ∀ w, Mem W chg news w → Calls P f args w (News v (fun b => U b ++ []) w)) (h : ∀ b, RunL P ops Q n rest ((d, v b) :: r) ds W chg (A ++ (U b ++ T))) : RunL P ops Q n (o :: rest) r ds W chg news :=
  RunL.call hg hd (fun a w s => hi.runs a w s.agree) hc (fun a w e w' s hR => by
    obtain ⟨b, rfl, hm⟩ := hR
    have s2 := s.put (Nat.le_of_ble_eq_true hn) (v b)
    have h1 : Mem W chg ((U b ++ []) ++ news) w' := s.mem.trans hm
    rw [List.append_nil, hne] at h1
    exact h b _ _ ⟨s2.size, s2.agree, s2.defers, h1.perm (List.perm_append_comm_assoc _ _ _)⟩)
/-- A store of one cell into a block whose last bytes a string may share. -/
theorem Sto.storeB {x y : Operand} {T T0 : TypeId} {b o : Nat} {fr : Nat × Nat} {cs : List Value} {v : Value} {news' : Blks} (hx : rev r x = some (.pointer (some ⟨b, o, none⟩))) (hy : rev r y = some v)
    (hu : Upd news b (.cells cs.toArray T0 fr) (.cells (cs.set o v).toArray T0 fr) news') (hT : tyB P T = some (false, 1)) (h1 : isOne v = true) (ho : o < cs.length) (hf : o < fr.1) :
    Sto P r W chg news { dst, op := .store T x y, type := ty, pos, after, guard := gd } chg news' :=
  ⟨fun a w ha hm0 => by
    have hb := (hm0.newd _ _ hu.mem).2
    have hlt := lt_of_block hb
    have hc : w.cell? ⟨b, o, none⟩ = some cs[o] := by rw [cell_of_cells hb]; simp
    have hfz : w.frozen? ⟨b, o, none⟩ = false := by
      have : ¬ fr.1 ≤ o := by omega
      simp [World.frozen?, hb, this]
    have hb' : (w.setCell ⟨b, o, none⟩ v).heap[b]? = some (.cells (cs.set o v).toArray T0 fr) := by
      have h' : w.heap[b] = .cells cs.toArray T0 fr := by simpa [Array.getElem?_eq_getElem hlt] using hb
      show (w.heap.modify b _)[b]? = _
      rw [Array.getElem?_eq_getElem (by simpa using hlt), Array.getElem_modify_self, h']
      simp
    have hsz : (sizeOf T).run P w = .ok 1 w := by
      unfold tyB at hT
      split at hT
      · rename_i i d hi hd
        simp at hT
        simp [sizeOf, typeInfo, hi, hT.2]
      · cases hT
    have e1 : v.cells.toList = [v] := by cases v <;> simp [isOne] at h1 <;> rfl
    have e2 : v.cells.size = 1 := by rw [← Array.length_toList, e1]; rfl
    have e3 : (storeCells ⟨b, o, none⟩ [v] 0).run P w = .ok () (w.setCell ⟨b, o, none⟩ v) := by
      simp only [storeCells, store, add_plain, Nat.add_zero]
      show ((Sem.store Mode.plain ⟨b, o, none⟩ v (Sem.pure ())).bind fun _ => Sem.pure ()).run P w = _
      simp only [Sem.bind]
      cases v <;> simp [isOne] at h1 <;> simp [Sem.run, hc, hfz]
    have hst : (execOp a.eval { dst, op := .store T x y, type := ty, pos, after, guard := gd }).run P w = .ok .skip (w.setCell ⟨b, o, none⟩ v) := by
      simp [execOp, ha.eval hx, ha.eval hy, Instr.storeAt, Instr.sureAddr, storeVar, hsz, e2, e1, e3]
    exact ⟨_, hst, hm0.upd_new hu rfl rfl rfl (by simp [World.setCell]) (fun k _ hk => Below.heap_setCell w ⟨b, o, none⟩ v k hk) hb'⟩⟩
theorem bytes_set {l : List UInt8} {j p : Nat} {e : TypeId} {c : UInt8} {v : Int} (hj : j < l.length) (hv : v = (c.toNat : Int)) :
    Obj.cells ((l.map byteV ++ List.replicate p (Value.int .u8 0)).set (0 + (j : Int).toNat * 1) (.int .u8 v)).toArray e ((l.map byteV).length + p, (l.map byteV).length + p + 1) = bytesO e ((l.set j c).map byteV) p := by
  subst hv
  have e1 : 0 + (j : Int).toNat * 1 = j := by omega
  rw [e1, List.set_append, if_pos (by simpa using hj)]
  unfold bytesO
  rw [List.map_set, List.length_set]
  rfl
theorem made_one (z : Value) (n : Nat) : madeCells #[z] (n * 1) = (List.replicate n z).toArray := by
  unfold madeCells
  refine Array.ext (by simp) fun i h1 h2 => ?_
  simp [Nat.mod_one]
theorem New.makeSlice {x y : Operand} {T e : TypeId} {n by_ : Nat} {z : Value} {kx ky : IntKind} (hx : rev r x = some (.int kx (n : Int))) (hy : rev r y = some (.int ky (n : Int))) (hT : apB P T = some (e, 1, by_)) (hz : zeroB P e = some [z]) (hn : n ≤ 1000000) (hb : by_ ≤ 1000) :
    New P r W chg news { dst, op := .makeSlice T x y, type := ty, pos, after, guard := gd } (fun b => .slice (some ⟨b, 0, none⟩) n n) (.cells (List.replicate n z).toArray e (0, 0)) :=
  ⟨fun a w ha _ => by
    obtain ⟨hu, i, zz, hi, hzi, h2, h3, _, _⟩ := apB_spec hT
    unfold zeroB at hz
    simp only [hi, hzi, Option.bind_some, Option.map_some, Option.some.injEq] at hz
    have hz2 : zz.cells = #[z] := by
      apply Array.toList_inj.1
      rw [hz]
    have hb2 : (i.bytes : Int) * (n : Int) ≤ 281474976710656 := by
      have h4 : i.bytes * n ≤ 1000 * 1000000 := Nat.mul_le_mul (by omega) hn
      have h5 : ((i.bytes * n : Nat) : Int) ≤ 281474976710656 := by omega
      rwa [Int.natCast_mul] at h5
    have hr := run_makeSlice (P := P) w T e i zz hu hi hzi kx ky n n (by omega) (Int.le_refl _) (by rw [h2]; omega) hb2 (by omega)
    rw [h2, hz2, Int.toNat_natCast, made_one] at hr
    simp [execOp, ha.eval hx, ha.eval hy, hr]⟩
end
end Go.Eng
