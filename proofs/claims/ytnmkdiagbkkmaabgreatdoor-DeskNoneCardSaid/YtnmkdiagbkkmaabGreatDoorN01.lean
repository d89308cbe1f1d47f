/- The engine inside a round of a range over a function: all of its judgements there; ranges whose variables are laid in blocks, ranges in rounds, rounds that break off or return; functions that hold several. No program is in sight. -/
import Derived.Test.YtnmkdiagbkkmaabGreatDoorN00
import Derived.RangeFuncNested
import Derived.OrdersIn
import Derived.ChangeKeysEq
import Derived.Laws.StructEq
import Derived.Maps.RangeRun
import Derived.Lib.Bytealg
import Derived.Laws.BytesString
import Derived.Laws.Strings
import Derived.Laws.Cells
import Derived.Laws.MakeOwn
import Derived.Lib.Builder
import Derived.Room.AppendFits
import Derived.Laws.CopyRow
set_option linter.unusedSimpArgs false
set_option linter.unusedVariables false
set_option linter.unusedSectionVars false
namespace Go.Eng
open Go Go.RowKit

theorem AK0 {F:Fence} {n:Nat} {P:Program} {Q:Exit→Act→World→Prop} {a:Act} {w:World} {c:Code} (h:c.wpIn F n P (Exit.noGoto Q) a w):(Code.scope c).wpIn F n P Q a w:=by
  intro b k cs hro hb hr;have st1:∀ a w k,step P (lone (b.atR a (.code (.scope c)::k)) cs w) = .next (lone (b.atR a (.code c::.inScope c::k)) cs w):=fun a w k=>step_lone_go (by simp [stepG,stepG.exec,Frame.atR])
  have st2:∀ a w k,step P (lone (b.atR a (.inScope c::k)) cs w) = .next (lone (b.atR a k) cs w):=fun a w k=>step_lone_go (by simp [stepG,stepG.exec,Frame.atR])
  have h0:(lone (b.atR a (.code (.scope c)::k)) cs w).fenced P F:=fenced_calm hb hr rfl;obtain ⟨e,a₁,w₁,hq,harr⟩:=h b (.inScope c::k) cs hro hb hr
  cases e with
  | normal=>exact ⟨.normal,a₁,w₁,hq,.head h0 (st1 _ _ _) (StepsIn.trans harr (.one (fenced_calm hb hr rfl) (st2 _ _ _)))⟩
  | exit id =>
    have hx:exitTo id (.inScope c::k)=exitTo id k:=by simp [exitTo]
    exact ⟨.exit id,a₁,w₁,hq,fun k' hk=>.head h0 (st1 _ _ _) (harr.1 k' (by rw [hx];exact hk)),fun hr' hk=>let ⟨k₁,h1,h2⟩:=harr.2 hr' (by rw [hx];exact hk);⟨k₁,h1,.head h0 (st1 _ _ _) h2⟩⟩
  | goto l=>exact hq.elim
  | ret=>exact ⟨_,a₁,w₁,hq,.of_steps (.one h0 (st1 _ _ _)) harr⟩
  | panic ch=>exact ⟨_,a₁,w₁,hq,.of_steps (.one h0 (st1 _ _ _)) harr⟩
  | outgrown=>exact ⟨_,a₁,w₁,hq,.of_steps (.one h0 (st1 _ _ _)) harr⟩

section
variable {ro:Option Nat} {P:Program} {ops:Array Oper} {Q:Exit→Act→World→Prop} {n:Nat} {r:Regs} {ds:List Deferred} {W:World} {chg news:Blks} {rest:List Oper}

/-! ### What holds of a region outside of rounds holds inside -/
def noDefers (ops:Array Oper):Bool:=ops.toList.all notDefer
theorem CR2 {row:String} {args:Array Value} {w:World} {R:Value→World→Prop} {m:Nat} (h:Rows P row args w R):RowsIn (Fr ro) m P row args w R:=fun c cs _ =>
  let ⟨v,w',hR,s⟩:=h c cs
  ⟨v,w',hR,by
    have e:Machine.fenced P (Fr ro)=Machine.fenced P Fence.wide:=by cases ro <;> rfl
    rw [e];exact stepsIn_wide.2 s⟩
theorem CJ4 {f:FuncId} {args:Array Value} {w:World} {R:Ending→World→Prop} {m:Nat} (h:Calls P f args w R):CallsIn (Fr ro) m P f args w R:=by
  have h2:CallsIn Fence.wide m P f args w R:=callsIn_wide.2 h
  cases ro with
  | none=>exact h2
  | some l=>exact CallsIn.inRound l h2
theorem CP6 {o:Oper} {a:Act} {K:Act→World→Prop} {x:Result Next} (h:o.upon P a K Q x):o.uponIn (Fr ro) 9 P a K Q x:=by
  cases x with
  | ok nx w' =>
    cases nx <;> simp only [Oper.upon,Oper.uponIn] at h ⊢ <;>
      first
        | exact h
        | exact ⟨fun h=>(by cases h),(CJ4 h).mono (fun e w'' he=>by cases e <;> exact he)⟩
        | exact ⟨fun h=>(by cases h),CR2 h⟩
  | halt x w'=>cases x <;> simp only [Oper.upon,Oper.uponIn] at h ⊢ <;> exact h
theorem Ci5 {o:Oper} {a:Act} {w:World} {K:Act→World→Prop} (hnd:notDefer o=true) (hlo:LetsOut Q→False) (h:o.wp P a w K Q∨(o.asks P a w∧LetsOut Q)):o.wpIn (Fr ro) 9 P a w K Q:=by
  rcases h with h | h
  · refine ⟨fun _ _=>trivial,?_⟩
    rw [Oper.semAt_eq _ _ _ (Au7 hnd)];exact CP6 h
  · exact (hlo h.2).elim
theorem BG2 (hlo:LetsOut Q→False):∀ (l:List Oper) (a:Act) (w:World),l.all notDefer=true→wpList P ops Q l a w→wpListIn (Fr ro) 9 P ops Q l a w
  | [],_,_,_,h=>h
  | o::l,a,w,hn,h=>by
    simp only [List.all_cons,Bool.and_eq_true] at hn;simp only [wpList,wpListIn] at h ⊢
    split
    · rename_i hw
      rw [if_pos hw] at h;exact Ci5 hn.1 hlo (h.imp (Oper.wp_mono (fun a w h=>BG2 hlo l a w hn.2 h)) id)
    · rename_i hw
      rw [if_neg hw] at h;exact ⟨fun _ _=>trivial,BG2 hlo l _ _ hn.2 h⟩
theorem Dm3 {i:Nat} {K K':Act→World→Prop} {a:Act} {w:World} (hn:noDefers ops=true) (hlo:LetsOut Q→False) (hK:∀ a w,K a w→K' a w) (h:wpOp P ops Q i K a w):wpOpIn (Fr ro) 9 P ops Q i K' a w:=by
  unfold wpOp at h;unfold wpOpIn
  cases ho:ops[i]? with
  | none=>simp only [ho] at h ⊢;exact hK _ _ h
  | some o =>
    simp only [ho] at h ⊢
    have hnd:notDefer o=true:=List.all_eq_true.1 hn o (by
      obtain ⟨h1,h2⟩:=Array.getElem?_eq_some_iff.1 ho;rw [← h2];exact Array.mem_toList_iff.2 (Array.getElem_mem h1))
    split
    · rename_i hw
      rw [if_pos hw] at h;exact Ci5 hnd hlo (h.imp (Oper.wp_mono hK) id)
    · rename_i hw
      rw [if_neg hw] at h;exact ⟨fun _ _=>trivial,hK _ _ h⟩
theorem Cu9 (hn:noDefers ops=true) (hlo:LetsOut Q→False):∀ (fuel:Nat) (listed:Array Bool) (a:Act) (w:World),wpAny P .any ops Q fuel listed a w→wpAnyIn (Fr ro) 9 P .any ops Q fuel listed a w
  | 0,_,_,_,h=>h
  | fuel + 1,_,_,_,h=>⟨h.1,fun i hi=>Dm3 hn hlo (fun a' w' h'=>Cu9 hn hlo fuel _ a' w' h') (h.2 i hi)⟩
theorem BG3 {Q:Exit→Act→World→Prop} (h:∀ a w,Q .outgrown a w→False):LetsOut Q→False:=fun ⟨a,w,hq⟩=>h a w hq

theorem Ac3 {id:Nat} {l:List Oper} (h:RunL P l.toArray Q n l r ds W chg news) (hnd:l.all notDefer=true:=by rfl) (hlo:∀ a w,Q .outgrown a w→False:=by exact fun _ _ h=>h):RunCR ro P Q n (.region id l.toArray false) r ds W chg news:=fun a w s =>
  wpIn_region_lit (BG2 (BG3 hlo) l a w hnd (h a w s))
theorem Ca8 {id:Nat} {l:List Oper} {news0:Blks} (k:Nat) (hm:P.follows .mixedOrders=true) (_hp:Pick news0 news) (h:RunA P l.toArray Q k (fun c=>c=chg) news0 n l.toArray.size (Array.replicate l.toArray.size false) r ds W chg news) (hnd:noDefers l.toArray=true:=by rfl) (hlo:∀ a w,Q .outgrown a w→False:=by exact fun _ _ h=>h):RunCR ro P Q n (.region id l.toArray true) r ds W chg news:=fun a _ s =>
  wpIn_region_any hm (Cu9 hnd (BG3 hlo) _ _ _ _ (Ak9 _ _ _ _ (h a _ s.drew Closed.start)))
theorem Bd1 {id:Nat} {l:List Oper} {news0:Blks} (k:Nat) (hm:P.follows .mixedOrders=true) (_hp:Pick news0 news) (h:RunA P l.toArray Q k (fun c=>c.map (·.1)=chg.map (·.1)) news0 n l.toArray.size (Array.replicate l.toArray.size false) r ds W chg news) (hnd:noDefers l.toArray=true:=by rfl) (hlo:∀ a w,Q .outgrown a w→False:=by exact fun _ _ h=>h):RunCR ro P Q n (.region id l.toArray true) r ds W chg news:=fun a _ s =>
  wpIn_region_any hm (Cu9 hnd (BG3 hlo) _ _ _ _ (Ak9 _ _ _ _ (h a _ s.drew Closed.start)))
theorem RunCR.scope {c:Code} (h:RunCR ro P (Exit.noGoto Q) n c r ds W chg news):RunCR ro P Q n (.scope c) r ds W chg news:=fun a w s=>AK0 (h a w s)
theorem RunCR.label {l:Nat} (h:RunE Q n .normal r ds W chg news):RunCR ro P Q n (.label l) r ds W chg news:=fun a w s=>wpIn_label (h a w s)
theorem AU2 {c:Operand} {x y:Code} (hc:rev r c=some (.bool false)) (hf:RunCR ro P Q n y r ds W chg news):RunCR ro P Q n (.cond c x y) r ds W chg news :=
  RunCR.cond hc (fun h=>by cases h) (fun _=>hf)
theorem Bk5 {c:Code} {q:Regs} {news':Blks} (hs:Sub q r) (hn:Pick news' news) (h:RunCR ro P Q n c q ds W chg news'):RunCR ro P Q n c r ds W chg news:=fun a w s=>h a w (s.pick hs hn)
theorem RunER.rounds {body:Code} {k:Nat} (h:RunCR ro P (Exit.then (Code.roundsIn (Fr ro) 9 P body Q k) Q) n body r ds W chg news):RunE (Exit.then (Code.roundsIn (Fr ro) 9 P body Q (k + 1)) Q) n .normal r ds W chg news:=fun a w s=>h a w s
theorem Bd0 {body:Code} {q:Regs} {n0:Blks} (N:Nat) (R:Nat→Regs→Regs) (C V:Nat→Blks) (Inv:Nat→Prop) (h0:Inv 0) (hc:chg=C 0) (hs:Sub (R 0 q) r) (hn:Pick (V 0++n0) news)
    (hb:∀ k,k≤N→Inv k→RunCR ro P (Exit.then (Round n ds W C N Inv (fun k=>R k q) (fun k=>V k++n0) k) Q) n body (R k q) ds W (C k) (V k++n0)):RunCR ro P Q n (.loop body) r ds W chg news:=by
  have key:∀ (m k:Nat),N - k < m→k≤N→Inv k→∀ a w,St n (R k q) ds W (C k) (V k++n0) a w→Code.roundsIn (Fr ro) 9 P body Q m a w:=by
    intro m
    induction m with
    | zero=>intro k h;omega
    | succ m ih =>
      intro k hk hN hi a w s;rw [roundsIn_succ];refine Go.wpIn_mono (hb k hN hi a w s) ?_
      rintro e a2 w2 hq
      cases e with
      | normal =>
        obtain ⟨k',h1,h2,h3,s2⟩:=hq;exact ih k' (by omega) h2 h3 a2 w2 s2
      | exit id=>exact hq
      | goto l=>exact hq
      | ret=>exact hq
      | panic c=>exact hq
      | outgrown=>exact hq
  intro a w s;subst hc;exact wpIn_loop_rounds _ (key _ 0 (Nat.lt_succ_self _) (Nat.zero_le _) h0 a w (s.pick hs hn))
theorem Bc9 {X:Type} {body:Code} {q:Regs} (n0:Blks) (N:Nat) (R:Nat→X→Regs→Regs) (C V T:Nat→X→Blks) (Inv:Nat→X→Prop) (x0:X) (h0:Inv 0 x0) (hc:chg=C 0 x0) (hs:Sub (R 0 x0 q) r) (hn:Pick (V 0 x0++(n0++T 0 x0)) news)
    (hb:∀ k x,k≤N→Inv k x→RunCR ro P (Exit.then (RoundX n ds W C N Inv (fun k x=>R k x q) (fun k x=>V k x++(n0++T k x)) k) Q) n body (R k x q) ds W (C k x) (V k x++(n0++T k x))):RunCR ro P Q n (.loop body) r ds W chg news:=by
  have key:∀ (m k:Nat) (x:X),N - k < m→k≤N→Inv k x→∀ a w,St n (R k x q) ds W (C k x) (V k x++(n0++T k x)) a w→Code.roundsIn (Fr ro) 9 P body Q m a w:=by
    intro m
    induction m with
    | zero=>intro k x h;omega
    | succ m ih =>
      intro k x hk hN hi a w s;rw [roundsIn_succ];refine Go.wpIn_mono (hb k x hN hi a w s) ?_
      rintro e a2 w2 hq
      cases e with
      | normal =>
        obtain ⟨k',x',h1,h2,h3,s2⟩:=hq;exact ih k' x' (by omega) h2 h3 a2 w2 s2
      | exit id=>exact hq
      | goto l=>exact hq
      | ret=>exact hq
      | panic c=>exact hq
      | outgrown=>exact hq
  intro a w s;subst hc;exact wpIn_loop_rounds _ (key _ 0 x0 (Nat.lt_succ_self _) (Nat.zero_le _) h0 a w (s.pick hs hn))
end

/-! ### Ranges -/
section
variable {ro:Option Nat} {P:Program} {ops:Array Oper} {Q:Exit→Act→World→Prop} {n:Nat} {r:Regs} {ds:List Deferred} {W:World} {chg news:Blks} {rest:List Oper}

def putsR:List Nat→List Value→Regs→Regs
  | p::ps,v::vs,r=>putsR ps vs ((p,v)::r)
  | _,_,r=>r
theorem AX6:∀ (ps:List Nat) (vs:List Value) (t:Array Value) (r:Regs),(∀ p∈ps,p < t.size)→(∀ u v,rget r u=some v→t[u]? = some v) →
    (∀ u v,rget (putsR ps vs r) u=some v→((ps.zip vs).foldl (fun t (pv:Nat×Value)=>t.setIfInBounds pv.1 pv.2) t)[u]? = some v)∧((ps.zip vs).foldl (fun t (pv:Nat×Value)=>t.setIfInBounds pv.1 pv.2) t).size=t.size
  | [],vs,t,r,_,h=>by simpa [putsR] using h
  | p::ps,[],t,r,_,h=>by simpa [putsR] using h
  | p::ps,v::vs,t,r,hp,h=>by
    have h1:=AX6 ps vs (t.setIfInBounds p v) ((p,v)::r) (fun q hq=>by rw [Array.size_setIfInBounds];exact hp q (by simp [hq])) (fun u x hu=>by
      have ha:Agree { tmps:=t,defers:=[] } r:=h
      have:=ha.put (d:=p) (v:=v) (hp p (by simp)) u x hu
      simpa [Act.put] using this)
    simpa [putsR] using h1
structure InR (l:Nat) (W:World) (nm:List Nat):Prop where
  rec':∃ x,W.heap[l]? = some (.loop x)
  notin:l ∉ nm
def AsgQ {Y:Type} (n:Nat) (W:World) (V:Blks) (R:Y→Regs) (NB:Y→Blks):Exit→Act→World→Prop
  | .normal,a,w=>∃ y,St n (R y) [] W V (NB y) a w
  | _,_,_=>False
theorem Bs2 {Y:Type} {R:Y→Regs} {NB:Y→Blks} {V:Blks} (y:Y) (hc:chg=V) (hs:Sub (R y) r) (hn:Pick (NB y) news):RunE (AsgQ n W V R NB) n .normal r [] W chg news:=fun _ _ s=>⟨y,by subst hc;exact s.pick hs hn⟩
def BodyX (W:World) (nv nb:List Nat) (V:Blks) (Stp:Code→Blks→Prop):Exit→Act→World→Prop
  | .normal,_,w=>∃ B,B.map (·.1)=nb∧Mem W (V++B) [] w
  | .ret,_,w=>∃ V' B,V'.map (·.1)=nv∧B.map (·.1)=nb∧Stp .ret V'∧Mem W (V'++B) [] w
  | .exit id,_,w=>∃ V' B,V'.map (·.1)=nv∧B.map (·.1)=nb∧Stp (.exit id) V'∧Mem W (V'++B) [] w
  | _,_,_=>False
theorem Aq6 {nv nb:List Nat} {V:Blks} {Stp:Code→Blks→Prop} (B:Blks) (hc:chg=V++B) (hb:B.map (·.1)=nb:=by rfl):RunE (BodyX W nv nb V Stp) n .normal r ds W chg news:=fun _ _ s=>⟨B,hb,hc ▸ s.mem.drop⟩
theorem AJ3 {nv nb:List Nat} {V:Blks} {Stp:Code→Blks→Prop} (V' B:Blks) (hs:Stp .ret V') (hc:chg=V'++B) (hv:V'.map (·.1)=nv:=by rfl) (hb:B.map (·.1)=nb:=by rfl):RunE (BodyX W nv nb V Stp) n .ret r ds W chg news:=fun _ _ s=>⟨V',B,hv,hb,hs,hc ▸ s.mem.drop⟩
theorem Bc8 {id:Nat} {nv nb:List Nat} {V:Blks} {Stp:Code→Blks→Prop} (V' B:Blks) (hs:Stp (.exit id) V') (hc:chg=V'++B) (hv:V'.map (·.1)=nv:=by rfl) (hb:B.map (·.1)=nb:=by rfl):RunE (BodyX W nv nb V Stp) n (.exit id) r ds W chg news:=fun _ _ s=>⟨V',B,hv,hb,hs,hc ▸ s.mem.drop⟩

def BodyI (I:Prop) (Q:Exit→Act→World→Prop):Exit→Act→World→Prop
  | .normal,a,w=>I∧Q .normal a w
  | e,a,w=>Q e a w
theorem Bk4 {I:Prop} (hi:I) (h:RunE Q n .normal r ds W chg news):RunE (BodyI I Q) n .normal r ds W chg news:=fun a w s=>⟨hi,h a w s⟩
theorem AJ4 {I:Prop} (h:RunE Q n .ret r ds W chg news):RunE (BodyI I Q) n .ret r ds W chg news:=h
theorem RunCR.bodyT {ro:Option Nat} {c:Code} (h:RunCR ro P Q n c r ds W chg news):RunCR ro P (BodyI True Q) n c r ds W chg news:=fun a w s =>
  Go.wpIn_mono (h a w s) (fun e a2 w2 hq=>by
    cases e with
    | normal=>exact ⟨trivial,hq⟩
    | _=>exact hq)
theorem Mem.roundN {w w':World} {V V' n0 B:Blks} (h:Mem W chg (V++n0) w) (h':Mem w (V'++B) [] w') (hm:V'.map (·.1)=V.map (·.1)) (hB:∀ b∈B.map (·.1),W.heap.size≤b∧∀ o,(b,o) ∉ chg++(V++n0)):Mem W chg (V'++n0) w':=by
  have hV:∀ b,(∃ o,(b,o)∈V') ↔ ∃ o,(b,o)∈V:=fun b=>by rw [← Ac9,← Ac9,hm]
  have hge:∀ b o,(b,o)∈V'→W.heap.size≤b:=fun b o hb=>by
    obtain ⟨o2,h2⟩:=(hV b).1 ⟨o,hb⟩;exact (h.newd b o2 (List.mem_append.2 (.inl h2))).1
  have hnd:=h.once;have hout:∀ b o,(b,o)∈B→W.heap.size≤b∧∀ o,(b,o) ∉ chg++(V++n0):=fun b o hb=>hB b (Ac9.2 ⟨o,hb⟩)
  refine ⟨h'.os.trans h.os,h'.tape.trans h.tape,h'.output.trans h.output,Nat.le_trans h.size h'.size,fun k hk hc=>?_,fun b o hb=>?_,fun b o hb=>?_,?_⟩
  · rw [h'.old k (Nat.lt_of_lt_of_le hk h.size) (fun o ho=>by
      rcases List.mem_append.1 ho with ho | ho
      · have:=hge k o ho;omega
      · have:=(hout k o ho).1;omega)]
    exact h.old k hk hc
  · have h1:=h.chgd b o hb
    refine ⟨h1.1,?_⟩
    rw [h'.old b (h.lt_new (List.mem_append.2 (.inl hb))) (fun o2 ho=>?_)]
    · exact h1.2
    · rcases List.mem_append.1 ho with ho | ho
      · have:=hge b o2 ho;omega
      · exact (hout b o2 ho).2 o (List.mem_append.2 (.inl hb))
  · rcases List.mem_append.1 hb with hb | hb
    · exact ⟨hge b o hb,h'.at (by simp [hb])⟩
    · have h1:=h.newd b o (List.mem_append.2 (.inr hb))
      refine ⟨h1.1,?_⟩
      rw [h'.old b (h.lt_new (List.mem_append.2 (.inr (List.mem_append.2 (.inr hb))))) (fun o2 ho=>?_)]
      · exact h1.2
      · rcases List.mem_append.1 ho with ho | ho
        · obtain ⟨o3,h3⟩:=(hV b).1 ⟨o2,ho⟩
          rw [List.map_append,List.map_append,List.nodup_append] at hnd;have h4:=(List.nodup_append.1 hnd.2.1).2.2 b (Ac9.2 ⟨o3,h3⟩) b (Ac9.2 ⟨o,hb⟩);exact h4 rfl
        · exact (hout b o2 ho).2 o (List.mem_append.2 (.inr (List.mem_append.2 (.inr hb))))
  · have e:(chg++(V'++n0)).map (·.1)=(chg++(V++n0)).map (·.1):=by simp [List.map_append,hm]
    rw [e];exact hnd
structure Held (n B:Nat) (r:Regs) (NB:Blks) (a:Act) (w:World):Prop where
  size:a.tmps.size=n
  agree:Agree a r
  defers:a.defers=[]
  held:∀ b o,(b,o)∈NB→B≤b∧w.heap[b]? = some o
  once:(NB.map (·.1)).Nodup

structure RangeOk {α Y:Type} (P:Program) (n N:Nat) (r:Regs) (W:World) (chg n0:Blks) (ps:List Nat) (assign body:Code) (enc:α→List Value) (V:List α→Blks) (RY:α→Y→Regs) (NB:α→Y→Blks) (Stp:Code→List α→Blks→Prop) (Iv:List α→Prop):Prop where
  iv0:Iv []
  names:∀ pre,(V pre).map (·.1)=(V []).map (·.1)
  cells:∀ pre b o,(b,o)∈V pre→o.isCells=true
  cellsN:∀ x y b o,(b,o)∈NB x y→o.isCells=true
  lens:∀ x,(enc x).length=ps.length
  inps:∀ p∈ps,p < n
  asg:∀ l pre x W1,Mem W chg (V pre++n0) W1→RunCR (some l) P (AsgQ n W1 (V pre) (RY x) (NB x)) n assign (putsR ps (enc x) r) [] W1 (V pre) []
  body:∀ l pre x y W1,pre.length < N→Iv pre→Mem W chg (V pre++n0) W1→InR l W1 ((V pre++NB x y).map (·.1))→(∀ b,(∃ o,(b,o)∈chg++n0)∨b < W.heap.size→b ∉ (V pre++NB x y).map (·.1))→RunCR (some l) P (BodyI (Iv (pre++[x])) (BodyX W1 ((V []).map (·.1)) ((NB x y).map (·.1)) (V (pre++[x])) (fun c V'=>Stp c (pre++[x]) V'))) n body (RY x y) [] W1 (V pre++NB x y) []

variable {α Y:Type} {N:Nat} {n0:Blks} {ps:List Nat} {assign body:Code} {enc:α→List Value} {V:List α→Blks} {RY:α→Y→Regs} {NB:α→Y→Blks} {Stp:Code→List α→Blks→Prop} {Iv:List α→Prop}

theorem RangeOk.lt (H:RangeOk P n N r W chg n0 ps assign body enc V RY NB Stp Iv) {w:World} (s0:Mem W chg (V []++n0) w):∀ pre b o,(b,o)∈chg++(V pre++n0)→b < w.heap.size:=fun pre b o hb=>by
  rcases List.mem_append.1 hb with hb | hb
  · exact s0.lt_new (List.mem_append.2 (.inl hb))
  · rcases List.mem_append.1 hb with hb | hb
    · have:b∈(V pre).map (·.1):=Ac9.2 ⟨o,hb⟩
      rw [H.names pre] at this;obtain ⟨o2,h2⟩:=Ac9.1 this;exact s0.lt_new (List.mem_append.2 (.inr (List.mem_append.2 (.inl h2))))
    · exact s0.lt_new (List.mem_append.2 (.inr (List.mem_append.2 (.inr hb))))
def RI (W:World) (chg n0:Blks) (V:List α→Blks) (B:Nat) (pre:List α) (W':World):Prop:=Mem W chg (V pre++n0) W'∧B≤W'.heap.size
def RIx (W:World) (chg n0:Blks) (nv:List Nat) (Stp:Code→List α→Blks→Prop) (B:Nat) (c:Code) (pre:List α) (W':World):Prop:=∃ V',V'.map (·.1)=nv∧Stp c pre V'∧Mem W chg (V'++n0) W'∧B≤W'.heap.size
def RJ (W:World) (chg n0:Blks) (V:List α→Blks) (Iv:List α→Prop) (B:Nat) (pre:List α) (W':World):Prop:=RI W chg n0 V B pre W'∧Iv pre
theorem RangeOk.own (H:RangeOk P n N r W chg n0 ps assign body enc V RY NB Stp Iv) {w:World} (s0:Mem W chg (V []++n0) w):OwnFrom w.heap.size (RI W chg n0 V w.heap.size):=fun pre _ _ _ hI hgr hr =>
  ⟨hI.1.turned hgr (fun k e=>(hr k e).1) (H.lt s0 pre) s0.size,Nat.le_trans hI.2 hgr.size⟩
theorem RangeOk.ownJ (H:RangeOk P n N r W chg n0 ps assign body enc V RY NB Stp Iv) {w:World} (s0:Mem W chg (V []++n0) w):OwnFrom w.heap.size (RJ W chg n0 V Iv w.heap.size):=fun pre _ _ _ hI hgr hr=>⟨H.own s0 pre _ _ _ hI.1 hgr hr,hI.2⟩
theorem RangeOk.ownX (H:RangeOk P n N r W chg n0 ps assign body enc V RY NB Stp Iv) {w:World} (s0:Mem W chg (V []++n0) w) (c:Code):OwnFrom w.heap.size (RIx W chg n0 ((V []).map (·.1)) Stp w.heap.size c):=fun pre _ _ _ hI hgr hr=>by
  obtain ⟨V',h1,h2,h3,h4⟩:=hI;refine ⟨V',h1,h2,h3.turned hgr (fun k e=>(hr k e).1) (fun b o hb=>?_) s0.size,Nat.le_trans h4 hgr.size⟩
  rcases List.mem_append.1 hb with hb | hb
  · exact H.lt s0 [] b o (List.mem_append.2 (.inl hb))
  · rcases List.mem_append.1 hb with hb | hb
    · have:b∈V'.map (·.1):=Ac9.2 ⟨o,hb⟩
      rw [h1] at this;obtain ⟨o2,h2⟩:=Ac9.1 this;exact H.lt s0 [] b o2 (List.mem_append.2 (.inr (List.mem_append.2 (.inl h2))))
    · exact H.lt s0 [] b o (List.mem_append.2 (.inr (List.mem_append.2 (.inr hb))))
theorem RangeOk.ownA (H:RangeOk P n N r W chg n0 ps assign body enc V RY NB Stp Iv) {B:Nat} (x:α) (a':Act):OwnFrom B (fun (_:Unit) W'=>∃ y,Held n B (RY x y) (NB x y) a' W'):=fun _ A C row hI hgr hr=>by
  obtain ⟨y,h⟩:=hI;refine ⟨y,h.size,h.agree,h.defers,fun b o hb=>?_,h.once⟩
  obtain ⟨h1,h2⟩:=h.held b o hb;refine ⟨h1,?_⟩
  rw [hgr.block b (Array.getElem?_eq_some_iff.1 h2).1 (fun e=>?_)]
  · exact h2
  · obtain ⟨_,o2,h3,h4⟩:=hr b e.symm
    rw [h2] at h3
    cases h3
    rw [H.cellsN x y b o hb] at h4
    cases h4
theorem AM7 {w w':World} {B:Nat} {V:Blks} (h:Mem w V [] w') (hv:∀ b o,(b,o)∈V→b < B∨∃ o',w.heap[b]? = some o'∧o'.isCells=true):KeepsFrom B w w' :=
  ⟨h.size,fun k o hB hk ho=>by
    rw [h.old k (Array.getElem?_eq_some_iff.1 hk).1 (fun o2 ho2=>?_)]
    · exact hk
    · rcases hv k o2 ho2 with h1 | ⟨o3,h3,h4⟩
      · omega
      · rw [hk] at h3;cases h3;rw [ho] at h4;cases h4⟩
theorem RangeOk.asgW (H:RangeOk P n N r W chg n0 ps assign body enc V RY NB Stp Iv) {a:Act} {w:World} (s:St n r ds W chg (V []++n0) a w) (l:Nat) (pre:List α) (x:α) (W1:World) (K:Act→World→Prop) (hI:RI W chg n0 V w.heap.size pre W1)
    (hK:∀ a' W',KeepsFrom w.heap.size W1 W'→KpX w.heap.size ((V []).map (·.1)) W1 W'→RI W chg n0 V w.heap.size pre W'→(∃ y,Held n w.heap.size (RY x y) (NB x y) a' W')→K a' W') :
    assign.wpIn ((Fr none).inRound l) 7 P (Exit.then K (fun _ _ _=>False)) { tmps:=(ps.toArray.zip (enc x).toArray).foldl (fun t (p,v)=>t.setIfInBounds p v) a.tmps,defers:=[] } W1:=by
  have hp:=AX6 ps (enc x) a.tmps r (fun p hp=>by rw [s.size];exact H.inps p hp) (fun u v hu=>s.agree u v hu)
  have e:(ps.toArray.zip (enc x).toArray).foldl (fun t (pv:Nat×Value)=>t.setIfInBounds pv.1 pv.2) a.tmps=(ps.zip (enc x)).foldl (fun t (pv:Nat×Value)=>t.setIfInBounds pv.1 pv.2) a.tmps:=by
    rw [← Array.foldl_toList,Array.toList_zip]
  have hst:Mem W1 (V pre) [] W1:=⟨rfl,rfl,rfl,Nat.le_refl _,fun _ _ _=>rfl,fun b o hb=>⟨hI.1.lt_new (List.mem_append.2 (.inr (List.mem_append.2 (.inl hb)))),(hI.1.newd b o (List.mem_append.2 (.inl hb))).2⟩,fun _ _ hb=>(by cases hb),by
    have:=hI.1.once
    rw [List.map_append,List.map_append,List.nodup_append] at this;simpa using (List.nodup_append.1 this.2.1).1⟩
  have hr:=H.asg l pre x W1 hI.1 { tmps:=(ps.zip (enc x)).foldl (fun t (pv:Nat×Value)=>t.setIfInBounds pv.1 pv.2) a.tmps,defers:=[] } W1 ⟨by rw [hp.2];exact s.size,fun u v hu=>hp.1 u v hu,rfl,hst⟩
  show assign.wpIn (Fr (some l)) 7 P _ { tmps:=(ps.toArray.zip (enc x).toArray).foldl (fun t (pv:Nat×Value)=>t.setIfInBounds pv.1 pv.2) a.tmps,defers:=[] } W1
  rw [e];refine Go.wpIn_mono (AH0 hr) ?_;intro e a2 w2 hq
  cases e with
  | normal =>
    obtain ⟨y,s2⟩:=hq;have hlt:∀ b o,(b,o)∈V pre→b < w.heap.size:=fun b o hb=>H.lt s.mem pre b o (List.mem_append.2 (.inr (List.mem_append.2 (.inl hb))))
    refine hK a2 w2 (AM7 s2.mem.drop (fun b o hb=>.inl (hlt b o hb))) (fun k hk hne=>s2.mem.old k (Nat.lt_of_lt_of_le hk hI.2) (fun o ho=>hne (by rw [← H.names pre];exact Ac9.2 ⟨o,ho⟩))) ⟨?_,Nat.le_trans hI.2 s2.mem.size⟩ ⟨y,s2.size,s2.agree,s2.defers,fun b o hb=>?_,?_⟩
    · have h2:=Mem.round hI.1 s2.mem.drop rfl
      exact h2
    · have:=s2.mem.newd b o hb
      exact ⟨Nat.le_trans hI.2 this.1,this.2⟩
    · have:=s2.mem.once
      rw [List.map_append,List.nodup_append] at this;exact this.2.1
  | exit id=>exact hq.elim
  | goto l=>exact hq.elim
  | ret=>exact hq.elim
  | panic c=>exact hq.elim
  | outgrown=>exact hq.elim
theorem RangeOk.round (H:RangeOk P n N r W chg n0 ps assign body enc V RY NB Stp Iv) {a:Act} {w:World} (s:St n r ds W chg (V []++n0) a w) (l:Nat) (pre:List α) (x:α) (a':Act) (W1:World) (hl:w.heap.size≤l) (hrec:∃ x,W1.heap[l]? = some (.loop x))
    (hI:RI W chg n0 V w.heap.size pre W1) (hA:∃ y,Held n w.heap.size (RY x y) (NB x y) a' W1) (hlen:pre.length < N) (hiv:Iv pre) :
    body.wpIn ((Fr none).inRound l) 7 P (ownPostG w.heap.size (KpX w.heap.size ((V []).map (·.1))) (RJ W chg n0 V Iv w.heap.size) (RIx W chg n0 ((V []).map (·.1)) Stp w.heap.size) (pre++[x]) W1) a' W1:=by
  obtain ⟨y,hh⟩:=hA;have hlt:∀ b o,(b,o)∈chg++(V pre++n0)→b < w.heap.size:=H.lt s.mem pre;have hVlt:∀ b o,(b,o)∈V pre→b < w.heap.size:=fun b o hb=>hlt b o (List.mem_append.2 (.inr (List.mem_append.2 (.inl hb))))
  have hV':∀ (V':Blks),V'.map (·.1)=(V []).map (·.1)→∀ b o,(b,o)∈V'→b < w.heap.size:=fun V' hv b o hb=>by
    have:b∈V'.map (·.1):=Ac9.2 ⟨o,hb⟩
    rw [hv,← H.names pre] at this;obtain ⟨o2,h2⟩:=Ac9.1 this;exact hVlt b o2 h2
  have hB':∀ (B:Blks),B.map (·.1)=(NB x y).map (·.1)→∀ b o,(b,o)∈B→w.heap.size≤b∧∃ o',W1.heap[b]? = some o'∧o'.isCells=true:=fun B hb b o h=>by
    have:b∈B.map (·.1):=Ac9.2 ⟨o,h⟩
    rw [hb] at this;obtain ⟨o2,h2⟩:=Ac9.1 this;obtain ⟨h3,h4⟩:=hh.held b o2 h2;exact ⟨h3,o2,h4,H.cellsN x y b o2 h2⟩
  have hst:Mem W1 (V pre++NB x y) [] W1:=⟨rfl,rfl,rfl,Nat.le_refl _,fun _ _ _=>rfl,fun b o hb=>by
      rcases List.mem_append.1 hb with hb | hb
      · exact ⟨hI.1.lt_new (List.mem_append.2 (.inr (List.mem_append.2 (.inl hb)))),(hI.1.newd b o (List.mem_append.2 (.inl hb))).2⟩
      · have h1:=(hh.held b o hb).2
        exact ⟨(Array.getElem?_eq_some_iff.1 h1).1,h1⟩,fun _ _ hb=>(by cases hb),by
      have h1:=hI.1.once;rw [List.map_append,List.map_append,List.nodup_append] at h1;rw [List.append_nil,List.map_append,List.nodup_append];refine ⟨(List.nodup_append.1 h1.2.1).1,hh.once,fun b hb c hc e=>?_⟩
      subst e;obtain ⟨o,ho⟩:=Ac9.1 hb;obtain ⟨o2,ho2⟩:=Ac9.1 hc
      have:=hVlt b o ho
      have:=(hh.held b o2 ho2).1
      omega⟩
  have hInR:InR l W1 ((V pre++NB x y).map (·.1)):=⟨hrec,fun hc=>by
    obtain ⟨o,ho⟩:=Ac9.1 hc
    rcases List.mem_append.1 ho with ho | ho
    · have:=hVlt l o ho;omega
    · obtain ⟨q,hq⟩:=hrec
      have h1:=(hh.held l o ho).2;rw [hq] at h1
      cases h1
      have:=H.cellsN x y l _ ho
      cases this⟩
  have hAp:∀ b,(∃ o,(b,o)∈chg++n0)∨b < W.heap.size→b ∉ (V pre++NB x y).map (·.1):=fun b hb hc=>by
    obtain ⟨o,ho⟩:=Ac9.1 hc;have hnd:=hI.1.once
    rcases List.mem_append.1 ho with ho | ho
    · rcases hb with ⟨o2,hb⟩ | hb
      · rw [List.map_append,List.map_append,List.nodup_append] at hnd
        rcases List.mem_append.1 hb with hb | hb
        · exact hnd.2.2 b (Ac9.2 ⟨o2,hb⟩) b (List.mem_append.2 (.inl (Ac9.2 ⟨o,ho⟩))) rfl
        · exact (List.nodup_append.1 hnd.2.1).2.2 b (Ac9.2 ⟨o,ho⟩) b (Ac9.2 ⟨o2,hb⟩) rfl
      · have:=(hI.1.newd b o (List.mem_append.2 (.inl ho))).1
        omega
    · have h1:=(hh.held b o ho).1
      rcases hb with ⟨o2,hb⟩ | hb
      · have:b < w.heap.size:=by
          rcases List.mem_append.1 hb with hb | hb
          · exact hlt b o2 (List.mem_append.2 (.inl hb))
          · exact hlt b o2 (List.mem_append.2 (.inr (List.mem_append.2 (.inr hb))))
        omega
      · have:=s.mem.size
        omega
  have hr:=H.body l pre x y W1 hlen hiv hI.1 hInR hAp a' W1 ⟨hh.size,hh.agree,hh.defers,hst⟩
  show body.wpIn (Fr (some l)) 7 P _ a' W1
  have hBout:∀ (B:Blks),B.map (·.1)=(NB x y).map (·.1)→∀ b∈B.map (·.1),W.heap.size≤b∧∀ o,(b,o) ∉ chg++(V pre++n0):=fun B hb b hbm=>by
    obtain ⟨o,ho⟩:=Ac9.1 hbm;have h1:=(hB' B hb b o ho).1;exact ⟨Nat.le_trans s.mem.size h1,fun o2 h2=>by have:=hlt b o2 h2;omega⟩
  have hkf:∀ (V' B:Blks) (w2:World),V'.map (·.1)=(V []).map (·.1)→B.map (·.1)=(NB x y).map (·.1)→Mem W1 (V'++B) [] w2→KeepsFrom w.heap.size W1 w2:=fun V' B w2 hv hb hm =>
    AM7 hm (fun b o ho=>by
      rcases List.mem_append.1 ho with ho | ho
      · exact .inl (hV' V' hv b o ho)
      · exact .inr (hB' B hb b o ho).2)
  refine Go.wpIn_mono (AH0 hr) ?_;intro e a2 w2 hq
  cases e with
  | normal =>
    obtain ⟨hiv2,B,hb,hm⟩:=hq;refine ⟨hkf _ B w2 (H.names _) hb hm,fun k hk hne=>hm.old k (Nat.lt_of_lt_of_le hk hI.2) (fun o ho=>?_),⟨hI.1.roundN hm (by rw [H.names,H.names pre]) (hBout B hb),Nat.le_trans hI.2 hm.size⟩,hiv2⟩
    rcases List.mem_append.1 ho with ho | ho
    · exact hne (by rw [← H.names (pre++[x])];exact Ac9.2 ⟨o,ho⟩)
    · have:=(hB' B hb k o ho).1;omega
  | exit id =>
    obtain ⟨V',B,hv,hb,hst2,hm⟩:=hq;exact ⟨hkf V' B w2 hv hb hm,V',hv,hst2,hI.1.roundN hm (by rw [hv,H.names pre]) (hBout B hb),Nat.le_trans hI.2 hm.size⟩
  | ret =>
    obtain ⟨V',B,hv,hb,hst2,hm⟩:=hq;exact ⟨hkf V' B w2 hv hb hm,V',hv,hst2,hI.1.roundN hm (by rw [hv,H.names pre]) (hBout B hb),Nat.le_trans hI.2 hm.size⟩
  | goto l=>exact hq.elim
  | panic c=>exact hq.elim
  | outgrown=>exact hq.elim
theorem Cm4 {B:Nat} {nm:List Nat} {A C D:World} (h1:KpX B nm A C) (h2:KpX B nm C D):KpX B nm A D:=fun k hk hne=>(h2 k hk hne).trans (h1 k hk hne)
theorem CS8 {B:Nat} {nm:List Nat} (A:World) (l:Nat) (o':Obj) (h:B≤l):KpX B nm A (A.putObj l o'):=fun k hk _=>World.putObj_heap_other (by omega)
theorem AS7 {g:Operand} {gf:Nat} {lb:Array Value} {S Sp:List α→Prop} (H:RangeOk P n N r W chg n0 ps assign body enc V RY NB Stp Iv)
    (hg:rev r g=some (.func (.func gf) #[] lb)) (he:Enters P gf) (hn:Pick (V []++n0) news)
    (hseq:∀ w,Mem W chg (V []++n0) w→SeqStopsK (Fr none) 8 P gf lb (fun x=>(enc x).toArray) (KpX w.heap.size ((V []).map (·.1))) S Sp N w)
    (h:∀ xs D,S xs→Iv xs→RunE Q n .normal r ({ target:=.collected D,args:=#[] }::ds) W chg ((D,.deferred (some []))::(V xs++n0)))
    (h2:∀ c pre V' D,Sp pre→V'.map (·.1)=(V []).map (·.1)→Stp c pre V'→RunC P Q n c r ({ target:=.collected D,args:=#[] }::ds) W chg ((D,.deferred (some []))::(V'++n0))) :
    RunC P Q n (.rangeFunc g ps.toArray assign body) r ds W chg news:=fun a w s=>by
  have s':St n r ds W chg (V []++n0) a w:=⟨s.size,s.agree,s.defers,s.mem.pick hn⟩
  have mark:∀ (V':Blks) (D:Nat) (W':World),V'.map (·.1)=(V []).map (·.1)→w.heap.size≤D→Mem W chg (V'++n0) W'→W'.heap[D]? = some (.deferred (some []))→Mem W chg ((D,.deferred (some []))::(V'++n0)) W':=fun V' D W' hv hD hI hK=>by
    have hlt:∀ b o,(b,o)∈chg++(V'++n0)→b < w.heap.size:=fun b o hb=>by
      rcases List.mem_append.1 hb with hb | hb
      · exact H.lt s'.mem [] b o (List.mem_append.2 (.inl hb))
      · rcases List.mem_append.1 hb with hb | hb
        · have:b∈V'.map (·.1):=Ac9.2 ⟨o,hb⟩
          rw [hv] at this;obtain ⟨o2,h2⟩:=Ac9.1 this;exact H.lt s'.mem [] b o2 (List.mem_append.2 (.inr (List.mem_append.2 (.inl h2))))
        · exact H.lt s'.mem [] b o (List.mem_append.2 (.inr (List.mem_append.2 (.inr hb))))
    refine { hI with newd:=fun b o hb=>?_,once:=?_ }
    · rcases List.mem_cons.1 hb with hb | hb
      · cases hb;exact ⟨Nat.le_trans s'.mem.size hD,hK⟩
      · exact hI.newd b o hb
    · have hnd:=hI.once
      rw [List.map_append,List.nodup_append] at hnd ⊢;refine ⟨hnd.1,?_,?_⟩
      · rw [List.map_cons,List.nodup_cons]
        refine ⟨fun hm=>?_,hnd.2.1⟩
        obtain ⟨o,ho⟩:=Ac9.1 hm
        have:=hlt D o (List.mem_append.2 (.inr ho))
        omega
      · intro b hb c hc
        rw [List.map_cons,List.mem_cons] at hc
        rcases hc with rfl | hc
        · obtain ⟨o,ho⟩:=Ac9.1 hb
          have:=hlt b o (List.mem_append.2 (.inl ho))
          intro e;subst e;omega
        · exact hnd.2.2 b hb c hc
  refine (wpIn_wide (n:=9)).1 ?_
  show Code.wpIn (Fr none) 9 P _ Q a w
  exact wpIn_rangeFunc_ownH (F:=Fr none) (n:=9) rfl (by decide) (s.agree.eval hg) trivial he (hseq w s'.mem) Cm4 (fun A l o o' hl _ _ _=>CS8 A l o' hl) (Below.refl _ w) (fun x=>by simp [H.lens x])
    (RJ W chg n0 V Iv w.heap.size) (RIx W chg n0 ((V []).map (fun x:Nat×Obj=>x.1)) Stp w.heap.size) (H.ownJ s'.mem) (H.ownX s'.mem) ⟨⟨s'.mem,Nat.le_refl _⟩,H.iv0⟩ (fun x a' W'=>∃ y,Held n w.heap.size (RY x y) (NB x y) a' W') (fun x a'=>H.ownA x a')
    (fun l pre x W1 K hI hK=>H.asgW s' l pre x W1 K hI.1 (fun a' W' h1 h2 h3 h4=>hK a' W' h1 h2 ⟨h3,hI.2⟩ h4)) (fun l pre x a' W1 hl hrec hI hA hlen=>H.round s' l pre x a' W1 hl hrec hI.1 hA hlen hI.2)
    (fun D xs W' hD hS hI hK=>h xs D hS hI.2 _ W' ⟨s.size,s.agree,by rw [← s.defers],mark _ D W' (H.names xs) hD hI.1.1 hK⟩)
    (fun D c pre W' hD hSp hI hK=>by
      obtain ⟨V',hv,hst,hm,_⟩:=hI;exact (wpIn_wide (n:=9)).2 (h2 c pre V' D hSp hv hst _ W' ⟨s.size,s.agree,by rw [← s.defers],mark V' D W' hv hD hm hK⟩))
theorem BL7 {α Y:Type} {g:Operand} {gf:Nat} {lb:Array Value} {S Sp:List α→Prop} {ps:List Nat} {assign body:Code} {q:Regs} {N:Nat} (n0:Blks) (enc:α→List Value) (V:List α→Blks) (RY:α→Y→Regs→Regs) (NB:α→Y→Blks) (Stp:Code→List α→Blks→Prop)
    (_hs:Sub q r) (hn:Pick (V []++n0) news) (hnm:∀ pre,(V pre).map (·.1)=(V []).map (·.1)) (hcl:∀ pre b o,(b,o)∈V pre→o.isCells=true) (hcn:∀ x y b o,(b,o)∈NB x y→o.isCells=true)
    (hlen:∀ x,(enc x).length=ps.length) (hin:(ps.all fun p=>Nat.ble (p + 1) n)=true) (hg:rev r g=some (.func (.func gf) #[] lb)) (he:Enters P gf)
    (hseq:∀ w,Mem W chg (V []++n0) w→SeqStopsK (Fr none) 8 P gf lb (fun x=>(enc x).toArray) (KpX w.heap.size ((V []).map (·.1))) S Sp N w)
    (hasg:∀ l pre x W1,Mem W chg (V pre++n0) W1→RunCR (some l) P (AsgQ n W1 (V pre) (fun y=>RY x y q) (NB x)) n assign (putsR ps (enc x) r) [] W1 (V pre) [])
    (hbody:∀ l pre x y W1,pre.length < N→Mem W chg (V pre++n0) W1→InR l W1 ((V pre++NB x y).map (·.1))→(∀ b,(∃ o,(b,o)∈chg++n0)∨b < W.heap.size→b ∉ (V pre++NB x y).map (·.1)) →
      RunCR (some l) P (BodyX W1 ((V []).map (·.1)) ((NB x y).map (·.1)) (V (pre++[x])) (fun c V'=>Stp c (pre++[x]) V')) n body (RY x y q) [] W1 (V pre++NB x y) [])
    (h:∀ xs D,S xs→RunE Q n .normal r ({ target:=.collected D,args:=#[] }::ds) W chg ((D,.deferred (some []))::(V xs++n0)))
    (h2:∀ c pre V' D,Sp pre→V'.map (·.1)=(V []).map (·.1)→Stp c pre V'→RunC P Q n c r ({ target:=.collected D,args:=#[] }::ds) W chg ((D,.deferred (some []))::(V'++n0))) :
    RunC P Q n (.rangeFunc g ps.toArray assign body) r ds W chg news :=
  AS7 (RY:=fun x y=>RY x y q) (Iv:=fun _=>True) ⟨trivial,hnm,hcl,hcn,hlen,fun p hp=>Nat.le_of_ble_eq_true (List.all_eq_true.1 hin p hp),hasg,fun l pre x y W1 h1 _ h2 h3 h4=>(hbody l pre x y W1 h1 h2 h3 h4).bodyT⟩ hg he hn hseq (fun xs D hS _=>h xs D hS) h2
theorem AS6 {α Y:Type} {g:Operand} {gf:Nat} {lb:Array Value} {S Sp:List α→Prop} {ps:List Nat} {assign body:Code} {q:Regs} {N:Nat} (n0:Blks) (enc:α→List Value) (V:List α→Blks) (RY:α→Y→Regs→Regs) (NB:α→Y→Blks) (Stp:Code→List α→Blks→Prop) (Iv:List α→Prop) (iv0:Iv [])
    (_hs:Sub q r) (hn:Pick (V []++n0) news) (hnm:∀ pre,(V pre).map (·.1)=(V []).map (·.1)) (hcl:∀ pre b o,(b,o)∈V pre→o.isCells=true) (hcn:∀ x y b o,(b,o)∈NB x y→o.isCells=true)
    (hlen:∀ x,(enc x).length=ps.length) (hin:(ps.all fun p=>Nat.ble (p + 1) n)=true) (hg:rev r g=some (.func (.func gf) #[] lb)) (he:Enters P gf)
    (hseq:∀ w,Mem W chg (V []++n0) w→SeqStopsK (Fr none) 8 P gf lb (fun x=>(enc x).toArray) (KpX w.heap.size ((V []).map (·.1))) S Sp N w)
    (hasg:∀ l pre x W1,Mem W chg (V pre++n0) W1→RunCR (some l) P (AsgQ n W1 (V pre) (fun y=>RY x y q) (NB x)) n assign (putsR ps (enc x) r) [] W1 (V pre) [])
    (hbody:∀ l pre x y W1,pre.length < N→Iv pre→Mem W chg (V pre++n0) W1→InR l W1 ((V pre++NB x y).map (·.1))→(∀ b,(∃ o,(b,o)∈chg++n0)∨b < W.heap.size→b ∉ (V pre++NB x y).map (·.1)) →
      RunCR (some l) P (BodyI (Iv (pre++[x])) (BodyX W1 ((V []).map (·.1)) ((NB x y).map (·.1)) (V (pre++[x])) (fun c V'=>Stp c (pre++[x]) V'))) n body (RY x y q) [] W1 (V pre++NB x y) [])
    (h:∀ xs D,S xs→Iv xs→RunE Q n .normal r ({ target:=.collected D,args:=#[] }::ds) W chg ((D,.deferred (some []))::(V xs++n0)))
    (h2:∀ c pre V' D,Sp pre→V'.map (·.1)=(V []).map (·.1)→Stp c pre V'→RunC P Q n c r ({ target:=.collected D,args:=#[] }::ds) W chg ((D,.deferred (some []))::(V'++n0))) :
    RunC P Q n (.rangeFunc g ps.toArray assign body) r ds W chg news :=
  AS7 (RY:=fun x y=>RY x y q) (Iv:=Iv) ⟨iv0,hnm,hcl,hcn,hlen,fun p hp=>Nat.le_of_ble_eq_true (List.all_eq_true.1 hin p hp),hasg,hbody⟩ hg he hn hseq h h2
theorem Mem.flat {w W1:World} {n1 c1 nw:Blks} (hI:Mem W [] n1 W1) (hm:Mem W1 c1 nw w) (hc:∀ b,b < W.heap.size→b ∉ c1.map (·.1)):Mem W [] [] w :=
  ⟨hm.os.trans hI.os,hm.tape.trans hI.tape,hm.output.trans hI.output,Nat.le_trans hI.size hm.size,fun k hk _=>(hm.old k (Nat.lt_of_lt_of_le hk hI.size) (fun o ho=>hc k hk (Ac9.2 ⟨o,ho⟩))).trans (hI.old k hk (by simp)),fun _ _ h=>(by cases h),fun _ _ h=>(by cases h),by simp⟩

/-! ### Leaving a function that holds loops -/
def markD (D:Nat):Deferred:={ target:=.collected D,args:=#[] }
def markB (D:Nat):Nat×Obj:=(D,.deferred (some []))
theorem AM6 {fn:Func} {R:Ending→World→Prop} {tl:List Deferred} {t:Array Value} {news2:Blks} (hend:∀ w,Mem W chg news2 w→LeavesInM Fence.wide 9 P fn t R tl .returning w):∀ (Ds:List Nat) (w:World),Mem W chg (Ds.map markB++news2) w→LeavesInM Fence.wide 9 P fn t R (Ds.map markD++tl) .returning w
  | [],w,hm=>hend w hm
  | D::Ds,w,hm=>⟨by simp,.inl ⟨D,_,rfl,run_takeDeferred (hm.newd D _ (List.mem_cons_self ..)).2,AM6 hend Ds _ (hm.putNew _)⟩⟩
theorem BX3 {fn:Func} {R:Ending→World→Prop} {news2:Blks} {v:Value} {a:Act} (hag:Agree a r) (hv:ResVs P r (chg++news2) fn v) (hR:∀ w,Mem W chg news2 w→R (.returned v) w):∀ w,Mem W chg news2 w→LeavesInM Fence.wide 9 P fn a.tmps R [] .returning w:=fun w hm =>
  ⟨v,hv.run hag (fun _ _ h=>hm.at h),hR w hm⟩
theorem Ap4 {fn:Func} {R:Ending→World→Prop} {v:Value} {news2:Blks} (Ds:List Nat) (hp:Pick (Ds.map markB++news2) news) (hv:ResVs P r (chg++news2) fn v) (hR:∀ w,Mem W chg news2 w→R (.returned v) w) :
    RunE (bodyPostM Fence.wide 9 P fn R) n .ret r (Ds.map markD++[]) W chg news:=fun a w s=>by
  show LeavesInM _ _ _ _ _ _ a.defers _ w
  rw [s.defers];exact AM6 (BX3 s.agree hv hR) Ds w (s.mem.pick hp)
theorem AC6 {v v0:Value} (h:v=v0) {news2:Blks}:∀ w,Mem W [] news2 w→Pure v0 W (.returned v) w:=fun _ hm=>⟨by rw [h],hm.drop⟩
end
end Go.Eng
/- The engine: structs and arrays of numbers and truth values, compared. No program is in sight. -/
namespace Go.Eng
open Go Go.RowKit
def eqFs (P:Program) (g:TypeId→List Value→List Value→Option Bool) (cs es:List Value):List Field→Option Bool
  | []=>some true
  | f::fs=>if f.name = "_" then none else
    match g f.type ((cs.drop f.offset).take (P.cellsOf f.type)) ((es.drop f.offset).take (P.cellsOf f.type)),eqFs P g cs es fs with
    | some a,some b=>some (a && b)
    | _,_=>none
def eqIs (P:Program) (g:TypeId→List Value→List Value→Option Bool) (e:TypeId) (cs es:List Value):List Nat→Option Bool
  | []=>some true
  | i::is=>match g e ((cs.drop (i * P.cellsOf e)).take (P.cellsOf e)) ((es.drop (i * P.cellsOf e)).take (P.cellsOf e)),eqIs P g e cs es is with
    | some a,some b=>some (a && b)
    | _,_=>none
def eqF (P:Program):Nat→TypeId→List Value→List Value→Option Bool
  | 0,_,_,_=>none
  | m + 1,t,cs,es=>match P.underlying t with
    | some (.int _)=>match cs,es with
      | [.int k a],[.int k' b]=>if k=k' then some (decide (a=b)) else none
      | _,_=>none
    | some .bool=>match cs,es with
      | [.bool a],[.bool b]=>some (a == b)
      | _,_=>none
    | some .string=>match cs,es with
      | [.string a],[.string b]=>some (a.toList == b.toList)
      | _,_=>none
    | some (.struct fs)=>if P.stoodInHeld t=false∧cs.length=P.cellsOf t∧es.length=P.cellsOf t then eqFs P (eqF P m) cs es fs.toList else none
    | some (.array n e)=>if n ≠ 0∧cs.length=P.cellsOf t∧es.length=P.cellsOf t then eqIs P (eqF P m) e cs es (List.range n) else none
    | _=>none
def valOf (P:Program) (t:TypeId) (cs:List Value):Value:=match P.underlying t with
  | some (.struct _)=>.agg cs.toArray
  | some (.array _ _)=>.agg cs.toArray
  | _=>cs.headD undef
section
variable {P:Program}
theorem BE8 {m off:Nat} {t:TypeId} {xs es:List Value} {w:World} {b:Bool} (h:eqF P m t ((xs.drop off).take (P.cellsOf t)) es=some b):(part t xs.toArray off).run P w = .ok (valOf P t ((xs.drop off).take (P.cellsOf t))) w:=by
  cases m with
  | zero=>cases h
  | succ m =>
    unfold eqF at h
    cases hu:P.underlying t with
    | none=>simp [hu] at h
    | some d =>
      rw [hu] at h
      have plain:∀ v,(xs.drop off).take (P.cellsOf t)=[v]→xs[off]? = some v:=fun v hv=>by
        have h1:((xs.drop off).take (P.cellsOf t))[0]? = some v:=by rw [hv];rfl
        rw [List.getElem?_take] at h1
        split at h1
        · simpa using h1
        · cases h1
      have agg:isAggD d=true→(part t xs.toArray off).run P w = .ok (.agg ((xs.drop off).take (P.cellsOf t)).toArray) w:=fun ha=>by
        obtain ⟨i,hi⟩:=info_of_underlying hu;have hc:P.cellsOf t=i.size:=by simp [Program.cellsOf,hi]
        have e:xs.toArray.extract off (off + i.size)=((xs.drop off).take (P.cellsOf t)).toArray:=by
          rw [hc];simp
        cases d <;> simp [isAggD] at ha <;> simp [part,isAgg,run_underlying hu,sizeOf,typeInfo,hi,← e]
      unfold valOf;rw [hu]
      cases d with
      | int k =>
        simp only at h ⊢
        split at h
        · rename_i a _ _ hv
          rw [hv];exact Ao8 hu rfl (by simpa using plain _ hv)
        · cases h
      | bool =>
        simp only at h ⊢
        split at h
        · rename_i a _ hv
          rw [hv];exact Ao8 hu rfl (by simpa using plain _ hv)
        · cases h
      | string =>
        simp only at h ⊢
        split at h
        · rename_i a _ hv
          rw [hv];exact Ao8 hu rfl (by simpa using plain _ hv)
        · cases h
      | struct fs=>exact agg rfl
      | array n e=>exact agg rfl
      | _=>simp at h
theorem BO5 {m off:Nat} {t:TypeId} {xs cs:List Value} {w:World} {b:Bool} (h:eqF P m t cs ((xs.drop off).take (P.cellsOf t))=some b):(part t xs.toArray off).run P w = .ok (valOf P t ((xs.drop off).take (P.cellsOf t))) w:=by
  have h2:∃ b,eqF P m t ((xs.drop off).take (P.cellsOf t)) ((xs.drop off).take (P.cellsOf t))=some b:=by
    have sym : ∀ (m : Nat) (t : TypeId) (cs es : List Value) (b : Bool), eqF P m t cs es = some b → ∃ b, eqF P m t es es = some b := by
      intro m
      induction m with
      | zero=>intro t cs es b h;cases h
      | succ m ih =>
        intro t cs es b h;unfold eqF at h ⊢
        split at h
        · split at h
          · split at h
            · rename_i hk;subst hk;exact ⟨_,by simp;rfl⟩
            · cases h
          · cases h
        · split at h
          · exact ⟨_,by simp;rfl⟩
          · cases h
        · split at h
          · exact ⟨_,by simp;rfl⟩
          · cases h
        · rename_i fs _
          split at h
          · rename_i hc
            rw [if_pos ⟨hc.1,hc.2.2,hc.2.2⟩]
            generalize fs.toList=l at h
            induction l generalizing b with
            | nil=>exact ⟨true,rfl⟩
            | cons f l ihl =>
              unfold eqFs at h ⊢
              split at h
              · cases h
              · rename_i hn
                rw [if_neg hn]
                split at h
                · rename_i a b' h1 h2
                  obtain ⟨u,hu⟩:=ih _ _ _ _ h1;obtain ⟨v,hv⟩:=ihl _ h2;rw [hu,hv];exact ⟨_,rfl⟩
                · cases h
          · cases h
        · rename_i n e _
          split at h
          · rename_i hc
            rw [if_pos ⟨hc.1,hc.2.2,hc.2.2⟩]
            generalize List.range n=l at h
            induction l generalizing b with
            | nil=>exact ⟨true,rfl⟩
            | cons i l ihl =>
              unfold eqIs at h ⊢
              split at h
              · rename_i a b' h1 h2
                obtain ⟨u,hu⟩:=ih _ _ _ _ h1;obtain ⟨v,hv⟩:=ihl _ h2;rw [hu,hv];exact ⟨_,rfl⟩
              · cases h
          · cases h
        · cases h
    exact sym _ _ _ _ _ h
  obtain ⟨b2,h2⟩:=h2;exact BE8 h2
theorem Cg7 (d:Nat):∀ (m:Nat) (t:TypeId) (cs es:List Value) (b:Bool) (w:World),eqF P m t cs es=some b→(Op.equalIn (d + m) t (valOf P t cs) (valOf P t es)).run P w = .ok b w:=by
  intro m
  induction m with
  | zero=>intro t cs es b w h;cases h
  | succ m ih =>
    intro t cs es b w h;unfold eqF at h;unfold valOf;rw [show d + (m + 1)=(d + m) + 1 from rfl]
    cases hu:P.underlying t with
    | none=>simp [hu] at h
    | some dd =>
      rw [hu] at h
      cases dd with
      | int k =>
        simp only at h ⊢
        split at h
        · split at h
          · rename_i hk
            cases h
            subst hk;rw [List.headD_cons,List.headD_cons,AC2 hu];rfl
          · cases h
        · cases h
      | bool =>
        simp only at h ⊢
        split at h
        · cases h
          rw [List.headD_cons,List.headD_cons,run_equalIn_bool w _ _ _ _ hu]
        · cases h
      | string =>
        simp only at h ⊢
        split at h
        · cases h
          rw [List.headD_cons,List.headD_cons,run_equalIn_string w _ _ _ _ hu]
        · cases h
      | struct fs =>
        simp only at h ⊢
        split at h
        · rename_i hc
          have hfs:P.fieldsOf t=fs:=by simp [Program.fieldsOf,hu]
          rw [run_equalIn_struct w (d + m) t _ _ (by rw [hfs];exact hu) hc.1,hfs]
          generalize fs.toList=l at h
          induction l generalizing b with
          | nil=>cases h;simp [Op.eqFields]
          | cons f l ihl =>
            unfold eqFs at h
            split at h
            · cases h
            · rename_i hn
              split at h
              · rename_i a b' h1 h2
                cases h
                unfold Op.eqFields;rw [if_pos hn];simp only [Sem.run_bind,BE8 h1,BO5 h1,Result.andThen_ok,ih _ _ _ _ w h1]
                cases a with
                | true=>simpa using ihl _ h2
                | false=>simp
              · cases h
        · cases h
      | array n e =>
        simp only at h ⊢
        split at h
        · rename_i hc
          have hn:=hc.1
          have hie:∃ i,P.info? e=some i:=by
            have h0:List.range n=0::(List.range' 1 (n - 1)):=by
              rw [List.range_eq_range']
              cases n with
              | zero=>exact absurd rfl hn
              | succ n=>simp [List.range'_succ]
            rw [h0] at h;unfold eqIs at h
            split at h
            · rename_i a b' h1 h2
              cases m with
              | zero=>cases h1
              | succ m =>
                unfold eqF at h1
                cases hue:P.underlying e with
                | none=>simp [hue] at h1
                | some _=>exact info_of_underlying hue
            · cases h
          obtain ⟨i,hi⟩:=hie;rw [run_equalIn_array w (d + m) _ _ hu hi]
          generalize List.range n=l at h
          induction l generalizing b with
          | nil=>cases h;simp [Op.eqItems]
          | cons j l ihl =>
            unfold eqIs at h
            split at h
            · rename_i a b' h1 h2
              cases h
              unfold Op.eqItems;simp only [Sem.run_bind,BE8 h1,BO5 h1,Result.andThen_ok,ih _ _ _ _ w h1]
              cases a with
              | true=>simpa using ihl _ h2
              | false=>simp
            · cases h
        · cases h
      | _=>simp at h
end
section
variable {P:Program} {ops:Array Oper} {Q:Exit→Act→World→Prop} {n:Nat} {r:Regs} {ds:List Deferred} {W:World} {chg news:Blks} {rest:List Oper}
variable {d:Nat} {ty:TypeId} {pos:String} {after:Array Edge} {dst:Option Tmp} {gd:Option (Nat×Bool)}
def aggB (P:Program) (T:TypeId):Bool:=!P.eqGuardType P.depth T && match P.underlying T with | some (.struct _)=>true | some (.array _ _)=>true | _=>false
theorem AG2 {T:TypeId} (h:aggB P T=true) (cs:List Value):P.eqGuardType P.depth T=false∧valOf P T cs = .agg cs.toArray:=by
  simp only [aggB,Bool.and_eq_true,Bool.not_eq_true'] at h;refine ⟨h.1,?_⟩
  have h2:=h.2;unfold valOf
  split at h2 <;> simp_all
theorem BB3 {x y:Operand} {T yt:TypeId} {cs es:List Value} {b:Bool} (hx:rev r x=some (.agg cs.toArray)) (hy:rev r y=some (.agg es.toArray)) (h:aggB P T=true) (he:eqF P 8 T cs es=some b) :
    Val P r W chg news { dst,op:=.binOp .neq T x y yt,type:=ty,pos,after,guard:=gd } (.bool (!b)) :=
  ⟨fun ac w ha _=>by
    have h1:=Cg7 9992 8 T cs es b w he;rw [(AG2 h cs).2,(AG2 h es).2] at h1;have h2:(Op.equal T (.agg cs.toArray) (.agg es.toArray)).run P w = .ok b w:=h1;simp [execOp,ha.eval hx,ha.eval hy,eqGuard,(AG2 h cs).1,binOp,h2]⟩
end
end Go.Eng
/- The engine: maps whose keys are numbers, and loops over them. No program is in sight. -/
namespace Go.Eng
open Go Go.RowKit
def mEntsF:Nat→List (Int×Value)→List MapEntry
  | _,[]=>[]
  | i,x::l=>{ key:=.int .i64 x.1,val:=x.2,born:=i }::mEntsF (i + 1) l
def mapO (l:List (Int×Value)):Obj:=.map (mEntsF 0 l).toArray l.length
def mIdx:List (Int×Value)→Int→Option (Nat×Value)
  | [],_=>none
  | x::l,a=>if x.1=a then some (0,x.2) else (mIdx l a).map fun p=>(p.1 + 1,p.2)
def mFind (l:List (Int×Value)) (a:Int):Option Value:=(mIdx l a).map (·.2)
theorem CI3:∀ (l:List (Int×Value)) (i:Nat),(mEntsF i l).length=l.length
  | [],_=>rfl
  | x::l,i=>by simp [mEntsF,CI3 l (i + 1)]
theorem By6:∀ (l:List (Int×Value)) (i:Nat) (x:Int×Value),mEntsF i (l++[x])=mEntsF i l++[{ key:=.int .i64 x.1,val:=x.2,born:=i + l.length }]
  | [],i,x=>by simp [mEntsF]
  | y::l,i,x=>by
    simp only [List.cons_append,mEntsF,By6 l (i + 1) x,List.length_cons];rw [show i + 1 + l.length=i + (l.length + 1) by omega]
theorem Bo8 {e:MapEntry}:∀ (l:List (Int×Value)) (i:Nat),e∈mEntsF i l→∃ j,∃ h:j < l.length,e={ key:=.int .i64 l[j].1,val:=l[j].2,born:=i + j }
  | [],i,h=>by cases h
  | x::l,i,h=>by
    simp only [mEntsF,List.mem_cons] at h
    rcases h with rfl | h
    · exact ⟨0,by simp,by simp⟩
    · obtain ⟨j,hj,rfl⟩:=Bo8 l (i + 1) h
      exact ⟨j + 1,by simp only [List.length_cons];omega,by simp only [List.getElem_cons_succ];rw [show i + 1 + j=i + (j + 1) by omega]⟩
theorem BH5:∀ (l:List (Int×Value)) (i j:Nat) (h:j < l.length),({ key:=.int .i64 l[j].1,val:=l[j].2,born:=i + j }:MapEntry)∈mEntsF i l
  | x::l,i,0,_=>by simp [mEntsF]
  | x::l,i,j + 1,h=>by
    have:=BH5 l (i + 1) j (by simpa using h)
    simp only [mEntsF,List.mem_cons,List.getElem_cons_succ]
    right
    rw [show i + (j + 1)=i + 1 + j by omega];exact this
theorem AF8 (q:IntKind) (a:Int):∀ (l:List (Int×Value)) (i j:Nat),Instr.findNow (.int q) (.int .i64 a) (mEntsF i l) j=some ((mIdx l a).map fun p=>(j + p.1,p.2))
  | [],_,_=>rfl
  | x::l,i,j=>by
    unfold mEntsF Instr.findNow mIdx
    by_cases h:x.1=a
    · subst h;simp [Instr.sameNow]
    · have h2:(a == x.1)=false:=by simp;exact fun e=>h e.symm
      simp only [Instr.sameNow,if_true,h2,h,if_false];rw [AF8 q a l (i + 1) (j + 1)]
      cases mIdx l a with
      | none=>rfl
      | some p=>simp;omega
def mapB (P:Program) (T:TypeId):Option TypeId:=match P.underlying T with
  | some (.map k e)=>if (P.underlying k).any isIntD then some e else none
  | _=>none
def zeroV (P:Program) (E:TypeId):Option Value:=(P.info? E).bind (·.zero)
theorem AY8 {P:Program} {T E:TypeId} (h:mapB P T=some E):∃ k q,P.underlying T=some (.map k E)∧P.underlying k=some (.int q):=by
  unfold mapB at h
  split at h
  · rename_i k e hu
    split at h
    · rename_i hk
      obtain ⟨q,hq⟩:=Bc1 hk
      cases h
      exact ⟨k,q,hu,hq⟩
    · cases h
  · cases h
section
variable {P:Program} {ops:Array Oper} {Q:Exit→Act→World→Prop} {n:Nat} {r:Regs} {ds:List Deferred} {W:World} {chg news:Blks} {rest:List Oper}
variable {d:Nat} {ty:TypeId} {pos:String} {after:Array Edge} {dst:Option Tmp} {gd:Option (Nat×Bool)}
theorem AJ1 {w:World} {T E:TypeId} {b:Nat} {l:List (Int×Value)} {a:Int} {z:Value} {ok:Bool} (hb:w.heap[b]? = some (mapO l)) (hT:mapB P T=some E) (hz:zeroV P E=some z) :
    (Instr.lookup T (.map (some b)) (.int .i64 a) ok).run P w = .ok (if ok then .tuple #[(mFind l a).getD z,.bool (mFind l a).isSome] else (mFind l a).getD z) w:=by
  obtain ⟨k,q,hu,hq⟩:=AY8 hT
  have hzz:(zeroValue E).run P w = .ok z w:=by
    unfold zeroV at hz
    cases hi:P.info? E with
    | none=>simp [hi] at hz
    | some i =>
      simp [hi] at hz
      simp [zeroValue,typeInfo,hi,hz]
  have hf:(Instr.findKey k (.int .i64 a) (mEntsF 0 l)).run P w = .ok (mIdx l a) w:=by
    have:=AF8 q a l 0 0
    refine (MapKept.run_findKey hq this).trans ?_
    cases mIdx l a <;> simp
  have hc:∀ e,(Instr.checkKey e 10000 k (.int .i64 a)).run P w = .ok () w:=fun e=>by
    rw [show (10000:Nat)=9999 + 1 from rfl];unfold Instr.checkKey;simp [run_underlying hq]
  unfold mapO at hb;unfold mFind;simp only [Instr.lookup,Sem.run_bind,run_underlying hu,Result.andThen_ok,MapKept.run_getObj_map hb,Sem.run_pure];rw [hc];simp only [Result.andThen_ok,hf]
  cases h:mIdx l a with
  | none=>cases ok <;> simp [hzz]
  | some p=>cases ok <;> simp
theorem Val.lookup {x i:Operand} {T E:TypeId} {b:Nat} {l:List (Int×Value)} {a:Int} {z:Value} (hx:rev r x=some (.map (some b))) (hi:rev r i=some (.int .i64 a)) (hb:∀ w,Mem W chg news w→w.heap[b]? = some (mapO l)) (hT:mapB P T=some E) (hz:zeroV P E=some z) :
    Val P r W chg news { dst,op:=.lookup T x i false,type:=ty,pos,after,guard:=gd } ((mFind l a).getD z) :=
  ⟨fun ac w ha hm=>by
    have h1:=AJ1 (P:=P) (ok:=false) (a:=a) (hb w hm) hT hz;simp at h1
    simp [execOp,ha.eval hx,ha.eval hi,h1]⟩
theorem BB4 {x i:Operand} {T E:TypeId} {b:Nat} {l:List (Int×Value)} {a:Int} {z:Value} (hx:rev r x=some (.map (some b))) (hi:rev r i=some (.int .i64 a)) (hb:∀ w,Mem W chg news w→w.heap[b]? = some (mapO l)) (hT:mapB P T=some E) (hz:zeroV P E=some z) :
    Val P r W chg news { dst,op:=.lookup T x i true,type:=ty,pos,after,guard:=gd } (.tuple #[(mFind l a).getD z,.bool (mFind l a).isSome]) :=
  ⟨fun ac w ha hm=>by
    have h1:=AJ1 (P:=P) (ok:=true) (a:=a) (hb w hm) hT hz;simp at h1
    simp [execOp,ha.eval hx,ha.eval hi,h1]⟩
theorem Ax2 {x i:Operand} {T E:TypeId} {b:Nat} {l:List (Int×Value)} {a:Int} {z:Value} {o:Option Value} (hx:rev r x=some (.map (some b))) (hi:rev r i=some (.int .i64 a)) (hb:∀ w,Mem W chg news w→w.heap[b]? = some (mapO l)) (hT:mapB P T=some E) (hz:zeroV P E=some z) (ho:mFind l a=o) :
    Val P r W chg news { dst,op:=.lookup T x i false,type:=ty,pos,after,guard:=gd } (o.getD z):=ho ▸ Val.lookup hx hi hb hT hz
theorem Br8 {x i:Operand} {T E:TypeId} {b:Nat} {l:List (Int×Value)} {a:Int} {z v:Value} (hx:rev r x=some (.map (some b))) (hi:rev r i=some (.int .i64 a)) (hb:∀ w,Mem W chg news w→w.heap[b]? = some (mapO l)) (hT:mapB P T=some E) (hz:zeroV P E=some z) (ho:Value.tuple #[(mFind l a).getD z,.bool (mFind l a).isSome]=v) :
    Val P r W chg news { dst,op:=.lookup T x i true,type:=ty,pos,after,guard:=gd } v:=ho ▸ BB4 hx hi hb hT hz
theorem New.makeMap {T:TypeId}:New P r W chg news { dst,op:=.makeMap T none,type:=ty,pos,after,guard:=gd } (fun b=>.map (some b)) (mapO []) :=
  ⟨fun a w _ _=>by simp [execOp,Instr.makeMap,newObj,Sem.run,mapO,mEntsF]⟩
theorem AP0 {w:World} {T E:TypeId} {b:Nat} {l:List (Int×Value)} {a:Int} {v:Value} (hb:w.heap[b]? = some (mapO l)) (hT:mapB P T=some E) (hk:mIdx l a=none) :
    (Instr.mapUpdate T (.map (some b)) (.int .i64 a) v).run P w = .ok () { w with heap:=w.heap.setIfInBounds b (mapO (l++[(a,v)])) }:=by
  obtain ⟨k,q,hu,hq⟩:=AY8 hT
  have hf:(Instr.findKey k (.int .i64 a) (mEntsF 0 l)).run P w = .ok none w:=by
    have:=AF8 q a l 0 0
    rw [hk] at this;exact MapKept.run_findKey hq this
  have hc:∀ e,(Instr.checkKey e 10000 k (.int .i64 a)).run P w = .ok () w:=fun e=>by
    rw [show (10000:Nat)=9999 + 1 from rfl];unfold Instr.checkKey;simp [run_underlying hq]
  have e1:mapO (l++[(a,v)]) = .map ((mEntsF 0 l).toArray.push { key:=.int .i64 a,val:=v,born:=l.length }) (l.length + 1):=by
    unfold mapO;rw [By6];simp
  unfold mapO at hb;rw [e1];simp only [Instr.mapUpdate,Sem.run_bind,run_underlying hu,Result.andThen_ok,MapKept.run_getObj_map hb,hc,hf,MapKept.run_setObj_map _ hb]
theorem Au8 {w:World} {b:Nat} {o o':Obj} (hb:w.heap[b]? = some o):({ w with heap:=w.heap.setIfInBounds b o' }:World).heap[b]? = some o'∧∀ k,k ≠ b→({ w with heap:=w.heap.setIfInBounds b o' }:World).heap[k]? = w.heap[k]?:=by
  have hlt:=(Array.getElem?_eq_some_iff.1 hb).1;refine ⟨by simp [hlt],fun k hk=>?_⟩
  show (w.heap.setIfInBounds b o')[k]? = _
  rw [Array.getElem?_setIfInBounds,if_neg (fun e=>hk e.symm)]
theorem Ca2 {x i y:Operand} {T E:TypeId} {b:Nat} {l:List (Int×Value)} {a:Int} {v:Value} {news':Blks} (hx:rev r x=some (.map (some b))) (hi:rev r i=some (.int .i64 a)) (hy:rev r y=some v) (hu:Upd news b (mapO l) (mapO (l++[(a,v)])) news') (hT:mapB P T=some E) (hk:mIdx l a=none) :
    Sto P r W chg news { dst,op:=.mapUpdate T x i y,type:=ty,pos,after,guard:=gd } chg news' :=
  ⟨fun ac w ha hm=>by
    have hb:=(hm.newd _ _ hu.mem).2;obtain ⟨s1,s2⟩:=Au8 (o':=mapO (l++[(a,v)])) hb;refine ⟨{ w with heap:=w.heap.setIfInBounds b (mapO (l++[(a,v)])) },by simp [execOp,ha.eval hx,ha.eval hi,ha.eval hy,AP0 hb hT hk],hm.upd_new hu rfl rfl rfl (by simp) (fun k _ hk=>s2 k hk) s1⟩⟩
def itO (m:Nat) (l:List (Int×Value)) (x:List Nat):Obj:=.mapIter (some m) l.length x.toArray l.length
theorem New.range {x:Operand} {T E:TypeId} {m:Nat} {l:List (Int×Value)} (hx:rev r x=some (.map (some m))) (hb:∀ w,Mem W chg news w→w.heap[m]? = some (mapO l)) (hT:mapB P T=some E) :
    New P r W chg news { dst,op:=.range T x,type:=ty,pos,after,guard:=gd } (fun b=>.pointer (some ⟨b,0,none⟩)) (itO m l []) :=
  ⟨fun a w ha hm=>by
    obtain ⟨k,q,hu,hq⟩:=AY8 hT;have hb':w.heap[m]? = some (.map (mEntsF 0 l).toArray l.length):=hb w hm;simp [execOp,ha.eval hx,Instr.range,run_underlying hu,MapKept.run_getObj_map hb',newObj,Sem.run,itO]⟩
theorem RunL.next {it:Operand} {rb m:Nat} {l:List (Int×Value)} {x:List Nat} {news':Nat→Blks} (hx:rev r it=some (.pointer (some ⟨rb,0,none⟩))) (hm0:∀ w,Mem W chg news w→w.heap[m]? = some (mapO l)) (hu:∀ i,Upd news rb (itO m l x) (itO m l (x++[i])) (news' i)) (hn:Nat.ble (d + 1) n=true)
    (h1:∀ i (hi:i < l.length),i ∉ x→RunL P ops Q n rest ((d,.tuple #[.bool true,.int .i64 l[i].1,l[i].2])::r) ds W chg (news' i))
    (h2:(∀ i,i < l.length→i∈x)→RunL P ops Q n rest ((d,.tuple #[.bool false])::r) ds W chg news) :
    RunL P ops Q n ({ dst:=some d,op:=.next it false,type:=ty,pos,after,guard:=none }::rest) r ds W chg news:=fun a w s =>
  wpList_plain rfl fun K hK=>by
    have hr:w.heap[rb]? = some (.mapIter (some m) l.length x.toArray l.length):=(s.mem.newd _ _ (hu 0).mem).2;have hb:w.heap[m]? = some (.map (mEntsF 0 l).toArray l.length):=hm0 w s.mem;have hev:=s.agree.eval hx
    have hlt:∀ e∈(mEntsF 0 l).toArray.toList,e.born < l.length:=fun e he=>by
      obtain ⟨j,hj,rfl⟩:=Bo8 l 0 (by simpa using he);simpa using hj
    unfold Oper.wp
    rcases run_next_at (P:=P) w ty rb m l.length l.length x.toArray (mEntsF 0 l).toArray l.length hr hb hlt (Nat.le_refl _) with ⟨h0,hrun⟩ | ⟨e,he,w1,hw1,hrun⟩
    · simp [execOp,hev,hrun]
      refine hK _ _ (h2 (fun i hi=>?_) _ _ (s.put (Nat.le_of_ble_eq_true hn) _))
      by_cases hc:i∈x
      · exact hc
      · exfalso
        have hin:({ key:=.int .i64 l[i].1,val:=l[i].2,born:=0 + i }:MapEntry)∈leftOf (mEntsF 0 l).toArray x.toArray:=by
          unfold leftOf;simp only [Array.mem_filter,List.mem_toArray];exact ⟨BH5 l 0 i hi,by simpa using hc⟩
        have:=Array.size_pos_of_mem hin
        omega
    · have he2:e∈(mEntsF 0 l)∧e.born ∉ x:=by
        have h3:e∈leftOf (mEntsF 0 l).toArray x.toArray:=by simpa using he
        unfold leftOf at h3;simp only [Array.mem_filter,List.mem_toArray] at h3;exact ⟨h3.1,by simpa using h3.2⟩
      obtain ⟨j,hj,rfl⟩:=Bo8 l 0 he2.1;have hjx:j ∉ x:=by simpa using he2.2
      simp [execOp,hev,hrun]
      refine hK _ _ (h1 j hj hjx _ _ ?_)
      have s2:=s.put (Nat.le_of_ble_eq_true hn) (.tuple #[.bool true,.int .i64 l[j].1,l[j].2]);have hr1:w1.heap[rb]? = some (.mapIter (some m) l.length x.toArray l.length):=by rcases hw1 with rfl | rfl <;> exact hr
      obtain ⟨q1,q2⟩:=Au8 (o':=itO m l (x++[j])) hr1
      have hmem1:Mem W chg news w1:=by
        rcases hw1 with rfl | rfl
        · exact s.mem
        · exact s.mem.drew
      refine ⟨s2.size,s2.agree,s2.defers,?_⟩
      have e1:ChangeMaps.setBlock w1 rb (.mapIter (some m) l.length (x++[j]).toArray l.length)={ w1 with heap:=w1.heap.setIfInBounds rb (itO m l (x++[j])) }:=by
        simp [ChangeMaps.setBlock,itO]
      rw [e1];exact hmem1.upd_new (hu j) rfl rfl rfl (by simp) (fun k _ hk=>q2 k hk) q1
theorem Bi5:∀ (l:List (Int×Value)) (i:Nat),((mEntsF i l).map (·.born)).Nodup∧∀ b∈(mEntsF i l).map (·.born),i≤b
  | [],_=>by simp [mEntsF]
  | x::l,i=>by
    obtain ⟨h1,h2⟩:=Bi5 l (i + 1);simp only [mEntsF,List.map_cons,List.nodup_cons,List.mem_cons,forall_eq_or_imp];exact ⟨⟨fun h=>by have:=h2 _ h;omega,h1⟩,Nat.le_refl _,fun b hb=>by have:=h2 b hb;omega⟩
theorem Val.entry {x:Operand} {rb m i:Nat} {l:List (Int×Value)} {xs:List Nat} (hx:rev r x=some (.pointer (some ⟨rb,0,none⟩))) (hr:∀ w,Mem W chg news w→w.heap[rb]? = some (itO m l (xs++[i]))) (hm0:∀ w,Mem W chg news w→w.heap[m]? = some (mapO l)) (hi:i < l.length) :
    Val P r W chg news { dst,op:=.entry x,type:=ty,pos,after,guard:=gd } (.tuple #[.int .i64 l[i].1,l[i].2]) :=
  ⟨fun a w ha hm=>by
    have h1:w.heap[rb]? = some (.mapIter (some m) l.length (xs.toArray.push (0 + i)) l.length):=by rw [hr w hm];simp [itO]
    have h2:w.heap[m]? = some (.map (mEntsF 0 l).toArray l.length):=hm0 w hm
    have:=run_entry_at (P:=P) w rb m l.length xs.toArray (mEntsF 0 l).toArray l.length { key:=.int .i64 l[i].1,val:=l[i].2,born:=0 + i } h1 h2 (by simpa using BH5 l 0 i hi) (by simpa using (Bi5 l 0).1)
    simp [execOp,ha.eval hx,this]⟩
theorem Az1 {x:Operand} {T:TypeId} {len sz b o:Nat} (hx:rev r x=some (.pointer (some ⟨b,o,none⟩))) (hT:arrB P T=some (len + 1,sz)) :
    Val P r W chg news { dst,op:=.slice T x none none none,type:=ty,pos,after,guard:=gd } (.slice (some ⟨b,o,none⟩) (len + 1) (len + 1)) :=
  ⟨fun a w ha _=>by
    unfold arrB at hT
    split at hT
    · rename_i m e hu
      cases hj:P.info? e with
      | none=>simp [hj] at hT
      | some j =>
        simp [hj] at hT
        obtain ⟨rfl,rfl⟩:=hT;simp [execOp,ha.eval hx,Instr.sliceAt,Instr.sureAddr,Instr.sliceBounds,run_underlying hu,sizeOf,typeInfo,hj,add_plain]
    · cases hT⟩
theorem Ax0 {x:Operand} {name:String} {first cap:Array Value} {T:TypeId} {v:Value} (hx:rev r x=some (.func (.method name) first cap)) (hf:first[0]? = some (.iface T v)) (hn:∀ w,(nilAhead (P.types.size + Made.depth) T v name).run P w = .ok (some false) w) :
    Val P r W chg news { dst,op:=.nilCheck x,type:=ty,pos,after,guard:=gd } (.func (.method name) first cap) :=
  ⟨fun a w ha _=>by
    have h1:=hn w;simp [execOp,ha.eval hx,hf,h1]⟩
theorem Ca0 {x:Operand} {rb m i:Nat} {l:List (Int×Value)} {xs:List Nat} {v:Value} (hx:rev r x=some (.pointer (some ⟨rb,0,none⟩))) (hr:∀ w,Mem W chg news w→w.heap[rb]? = some (itO m l (xs++[i]))) (hm0:∀ w,Mem W chg news w→w.heap[m]? = some (mapO l)) (hi:i < l.length) (hv:Value.tuple #[.int .i64 l[i].1,l[i].2]=v) :
    Val P r W chg news { dst,op:=.entry x,type:=ty,pos,after,guard:=gd } v:=hv ▸ Val.entry hx hr hm0 hi
end
structure Vis (n k:Nat) (x:List Nat):Prop where
  nd:x.Nodup
  lt:∀ i∈x,i < n
  len:x.length=k
theorem Vis.nil {n:Nat}:Vis n 0 []:=⟨List.nodup_nil,fun i h=>(by cases h),rfl⟩
theorem Bn3:∀ (n:Nat) (x:List Nat),x.Nodup→(∀ i∈x,i < n)→x.length≤n
  | 0,x,_,h=>by
    cases x with
    | nil=>simp
    | cons a x=>exact absurd (h a (by simp)) (by omega)
  | n + 1,x,hn,h=>by
    by_cases hm:n∈x
    · have h1:=Bn3 n (x.erase n) (hn.erase n) (fun i hi=>by
        have h2:=(List.Nodup.mem_erase_iff hn).1 hi
        have:=h i h2.2
        have:=h2.1
        omega)
      rw [List.length_erase_of_mem hm] at h1;omega
    · have:=Bn3 n x hn (fun i hi=>by
        have:=h i hi
        have:i ≠ n:=fun e=>hm (e ▸ hi)
        omega)
      omega
theorem Vis.snoc {n k i:Nat} {x:List Nat} (h:Vis n k x) (hi:i < n) (hx:i ∉ x):Vis n (k + 1) (x++[i]) :=
  ⟨List.nodup_append.2 ⟨h.nd,by simp,fun a ha b hb=>by cases List.mem_singleton.1 hb;exact fun e=>hx (e ▸ ha)⟩,fun j hj=>by
    rcases List.mem_append.1 hj with hj | hj
    · exact h.lt j hj
    · cases List.mem_singleton.1 hj;exact hi,by simp [h.len]⟩
theorem Vis.more {n k i:Nat} {x:List Nat} (h:Vis n k x) (hi:i < n) (hx:i ∉ x):k < n:=by
  have:=Bn3 n _ (h.snoc hi hx).nd (h.snoc hi hx).lt
  rw [(h.snoc hi hx).len] at this;omega
end Go.Eng
/- The engine: ways in the forced tail of a region that draws; max and min of three numbers. -/
namespace Go.Eng
open Go
variable {P:Program} {r:Regs} {W:World} {chg news:Blks}
section
variable {ty:TypeId} {pos:String} {after:Array Edge} {dst:Option Tmp} {gd:Option (Nat×Bool)}
end
end Go.Eng
/- The engine: strings, by the lists of their bytes; bytes of a string as a new block; maps whose keys are pairs. No program is in sight. -/
namespace Go.Eng
open Go Go.RowKit
def bs (l:List UInt8):ByteArray:=⟨⟨l⟩⟩
theorem Al5 (l:List UInt8):(bs l).size=l.length:=rfl
theorem Dk4 {a b:List UInt8}:bs a=bs b ↔ a=b:=⟨fun h=>congrArg (fun s=>s.data.toList) h,fun h=>by rw [h]⟩
theorem BA5 (l:List UInt8):(bs l).toList=l:=ByteArray.toList_mk l
def byteV (c:UInt8):Value:=.int .u8 c.toNat
theorem AQ2 (l:List UInt8) (a b:Nat):(bs l).extract a b=bs ((l.drop a).take (b - a)):=by
  rw [ByteArray.ext_iff,ByteArray.data_extract]
  show (l.toArray).extract a b=((l.drop a).take (b - a)).toArray
  rw [List.extract_toArray,List.extract_eq_take_drop]
theorem Cu3 (a b:List UInt8):bs a++bs b=bs (a++b):=by
  rw [ByteArray.ext_iff,ByteArray.data_append];simp [bs]
structure NewX {β:Type} (P:Program) (r:Regs) (W:World) (chg news:Blks) (o:Oper) (v:β→Nat→Value) (ob:β→Obj) (I:β→Prop):Prop where
  run:∀ a w,Agree a r→Mem W chg news w→∃ x,I x∧((execOp a.eval o).run P w = .ok (.value (v x w.heap.size)) (w.alloc (ob x))∨(execOp a.eval o).run P w = .ok (.value (v x w.heap.size)) (w.drew.alloc (ob x)))
section
variable {P:Program} {ops:Array Oper} {Q:Exit→Act→World→Prop} {n:Nat} {r:Regs} {ds:List Deferred} {W:World} {chg news:Blks} {rest:List Oper}
variable {d:Nat} {ty:TypeId} {pos:String} {after:Array Edge} {dst:Option Tmp} {gd:Option (Nat×Bool)}
theorem BC0 {β:Type} {o:Oper} {v:β→Nat→Value} {ob:β→Obj} {I:β→Prop} (hv:NewX P r W chg news o v ob I) (hg:guardB ops r o.guard=some true) (hd:o.dst=some d) (hn:Nat.ble (d + 1) n=true)
    (h:∀ x,I x→∀ b,RunL P ops Q n rest ((d,v x b)::r) ds W chg ((b,ob x)::news)):RunL P ops Q n (o::rest) r ds W chg news:=fun a w s =>
  AA0 (Ad7 s.agree hg) fun K hK=>by
    obtain ⟨x,hx,hr⟩:=hv.run a w s.agree s.mem;have s2:=s.put (Nat.le_of_ble_eq_true hn) (v x w.heap.size);unfold Oper.wp
    rcases hr with hr | hr
    · rw [hr,Oper.upon_value,hd]
      exact hK _ _ (h x hx _ _ _ ⟨s2.size,s2.agree,s2.defers,s.mem.alloc (ob x)⟩)
    · rw [hr,Oper.upon_value,hd]
      exact hK _ _ (h x hx _ _ _ ⟨s2.size,s2.agree,s2.defers,s.mem.drew.alloc (ob x)⟩)
variable {i:Nat} {K:Act→World→Prop}
def bytesO (e:TypeId) (l:List Value) (p:Nat):Obj:=Obj.cells (l++List.replicate p (Value.int .u8 0)).toArray e (l.length + p,l.length + p + 1)
theorem NewX.bytes {x:Operand} {S T e:TypeId} {l:List UInt8} (hx:rev r x=some (.string (bs l))) (hS:P.underlying S=some .string) (hT:P.underlying T=some (.slice e)) (he:P.underlying e=some (.int .u8)) :
    NewX P r W chg news { dst,op:=.convert S T x,type:=ty,pos,after,guard:=gd } (fun p b=>.slice (some ⟨b,0,none⟩) l.length (l.length + p)) (fun p=>bytesO e (l.map byteV) p) (fun _:Nat=>True) :=
  ⟨fun a w ha _=>by
    refine ⟨(Question.appendCap l.length 0 e).cut (w.tape w.drawn (Question.appendCap l.length 0 e)) - l.length,trivial,.inr ?_⟩
    have hc:l.length≤(Question.appendCap l.length 0 e).cut (w.tape w.drawn (Question.appendCap l.length 0 e)):=by simp [Question.cut]
    generalize hq:(Question.appendCap l.length 0 e).cut (w.tape w.drawn (Question.appendCap l.length 0 e))=q at hc ⊢
    have hf:(Question.appendCap l.length 0 e).forced=false:=rfl;have hb:(bs l).size=l.length:=rfl;simp only [execOp,ha.eval hx,convert,Sem.run_bind,run_underlying hS,run_underlying hT,Result.andThen_ok,Sem.run_pure,run_underlying he];simp only [Conv.stringToBytes,hb,Sem.run_bind,run_choose_drew,hf,hq,Result.andThen_ok,Sem.run_pure]
    have e1:Array.map (fun b:UInt8=>Value.int IntKind.u8 (b.toNat:Int)) (bs l).data++Array.replicate (q - l.length) (Value.int IntKind.u8 0)=(l.map byteV++List.replicate (q - l.length) (Value.int .u8 0)).toArray:=by
      simp [bs,byteV]
    have e2:((l.map byteV++List.replicate (q - l.length) (Value.int .u8 0)).toArray).size=q:=by simp;omega
    have e3:l.length + (q - l.length)=q:=by omega
    simp only [Bool.false_eq_true,if_false,Result.andThen_ok,e1]
    generalize hX:(l.map byteV++List.replicate (q - l.length) (Value.int .u8 0)).toArray=X at e2 ⊢
    have h4:(newRow e X).run P w.drew = .ok ⟨w.heap.size,0,none⟩ (w.drew.alloc (.cells X e)):=by simp [newRow]
    have h5:(markStringish ⟨w.heap.size,0,none⟩).run P (w.drew.alloc (.cells X e)) = .ok () (w.drew.alloc (.cells X e (q,q + 1))):=by
      have h6:(w.drew.alloc (.cells X e)).shape? w.heap.size=some (e,q):=by
        have h8:(w.drew.alloc (.cells X e)).heap[w.heap.size]? = some (.cells X e):=by
          show (w.heap.push (Obj.cells X e))[w.heap.size]? = _
          simp
        unfold World.shape?;rw [h8];simp only [e2]
      have h7:(w.drew.alloc (.cells X e)).freeze { block:=w.heap.size,off:=q } 1=w.drew.alloc (.cells X e (q,q + 1)):=by
        unfold World.freeze;rw [if_neg (by decide)]
        show ({ w with drawn:=w.drawn + 1,heap:=(w.heap.push (Obj.cells X e)).modify w.heap.size _ }:World)={ w with drawn:=w.drawn + 1,heap:=w.heap.push (Obj.cells X e (q,q + 1)) }
        congr 1
        refine Array.ext (by simp) fun i h1 h2=>?_
        simp only [Array.getElem_modify]
        by_cases hi:w.heap.size=i
        · subst hi;simp
        · have:i < w.heap.size:=by simp at h2;omega
          simp [hi,Array.getElem_push,this]
      simp [markStringish,h6,h7]
    simp only [h4,Result.andThen_ok,h5,e3];subst hX;simp [bytesO,e3]⟩
/-! ### Operations on strings -/
theorem Cv6 {f:FuncId} {fn:Func} {e:Array Value→Sem Value} {xs:List Operand} {vs:List Value} {ats:Array TypeId} {v:Value} (hf:P.funcs[f]? = some fn) (hname:(fn.name == "runtime.NumGoroutine")=false) (hb:fn.body.isNone=true) (hn:Extern.findNext fn=none) (he:Extern.find fn=some e)
    (hx:revs r xs=some vs) (hv:∀ w,(e vs.toArray).run P w = .ok v w) :
    Val P r W chg news { dst,op:=.call { callee:=.value (.func f),args:=xs.toArray,argTypes:=ats },type:=ty,pos,after,guard:=gd } v :=
  ⟨fun a w ha _=>by
    have h1:=ha.evals hx;have h2:=run_callFunc_extern hf hname hb hn he vs.toArray w;rw [hv w] at h2;simp [execOp,resolve,h1,Deferred.ofValue,Act.eval,invoke]
    exact h2⟩
theorem Ah0 {x:Operand} {T:TypeId} {l:List UInt8} (hx:rev r x=some (.string (bs l))) (hT:P.underlying T=some .string) {ats:Array TypeId} (_h:ats = #[T]:=by rfl) :
    Val P r W chg news { dst,op:=.call { callee:=.builtin .len,args:=#[x],argTypes:=ats },type:=ty,pos,after,guard:=gd } (.int .i64 (l.length:Int)):=by
  subst _h;exact BL1 hx hT
theorem Az0 {x y:Operand} {T:TypeId} {l:List UInt8} {k:IntKind} {i:Int} {c:UInt8} (hx:rev r x=some (.string (bs l))) (hy:rev r y=some (.int k i)) (hT:P.underlying T=some .string) (h0:0≤i) (hc:l[i.toNat]? = some c) :
    Val P r W chg news { dst,op:=.index T x y,type:=ty,pos,after,guard:=gd } (byteV c) :=
  ⟨fun a w ha _=>by
    obtain ⟨hi,he⟩:=List.getElem?_eq_some_iff.1 hc;have h1:=run_index_string (P:=P) w T (bs l) k i hT;rw [dif_pos ⟨h0,by rw [Al5];omega⟩] at h1;have h2:(bs l)[i.toNat]'(by rw [Al5];exact hi)=c:=he;rw [h2] at h1;simp [execOp,ha.eval hx,ha.eval hy,h1,byteV]⟩
theorem BR8 {x y:Operand} {T yt:TypeId} {k:IntKind} {a b:Nat} (c:Nat) (hx:rev r x=some (.int k (a:Int))) (hy:rev r y=some (.int k (b:Int))) (hc:a * b=c) (hr:k.wrap (c:Int)=(c:Int)) :
    Val P r W chg news { dst,op:=.binOp .mul T x y yt,type:=ty,pos,after,guard:=gd } (.int k (c:Int)):=by
  subst hc;have h:=Val.mul (P:=P) (W:=W) (chg:=chg) (news:=news) (dst:=dst) (ty:=ty) (pos:=pos) (after:=after) (gd:=gd) (T:=T) (yt:=yt) hx hy (by rw [← Int.natCast_mul];exact hr);rw [← Int.natCast_mul] at h;exact h
theorem Val.nilIface {x:Operand} {t:TypeId} {v:Value} (hx:rev r x=some (.iface t v)):Val P r W chg news { dst,op:=.nilCheck x,type:=ty,pos,after,guard:=gd } (.iface t v) :=
  ⟨fun a w ha _=>by simp [execOp,ha.eval hx]⟩
def arrNB (P:Program) (T:TypeId):Option (Nat×Nat) :=
  match P.underlying T with
  | some (.array n e)=>match P.underlying e with
    | some d=>if isAggD d then (P.info? e).map fun j=>(n,j.size) else none
    | none=>none
  | _=>none
theorem Bj9 {x y:Operand} {T:TypeId} {len sz:Nat} {cs vs:List Value} {k:IntKind} {i:Int} (hx:rev r x=some (.agg cs.toArray)) (hy:rev r y=some (.int k i)) (hT:arrNB P T=some (len,sz)) (h0:0≤i) (h1:i < len) (hv:(cs.drop (i.toNat * sz)).take sz=vs) :
    Val P r W chg news { dst,op:=.index T x y,type:=ty,pos,after,guard:=gd } (.agg vs.toArray) :=
  ⟨fun a w ha _=>by
    unfold arrNB at hT
    split at hT
    · rename_i n e hu
      split at hT
      · rename_i d hd
        split at hT
        · rename_i hag
          cases hj:P.info? e with
          | none=>simp [hj] at hT
          | some j =>
            simp [hj] at hT
            obtain ⟨rfl,rfl⟩:=hT
            have h2:(isAgg e).run P w = .ok true w:=by
              cases d <;> simp [isAggD] at hag <;> simp [isAgg,run_underlying hd]
            have hp:(part e cs.toArray (i.toNat * j.size)).run P w = .ok (.agg vs.toArray) w:=by
              simp [part,h2,sizeOf,typeInfo,hj]
              exact hv
            simp [execOp,ha.eval hx,ha.eval hy,Instr.index,asIntOf,run_underlying hu,h0,h1,sizeOf,typeInfo,hj,hp]
        · cases hT
      · cases hT
    · cases hT⟩
theorem Aq9 {v:Value} {k:IntKind} {m:Nat} {y:Nat} {code:BoundsCode} {w:World} (hv:v=Value.int k (m:Int)) (h:m≤y):(Instr.sliceBound v y code).run P w = .ok m w:=by
  subst hv;have h1:(0:Int)≤(m:Int)∧(m:Int)≤(y:Int):=⟨by omega,by omega⟩;simp [Instr.sliceBound,asIntOf,h1]
theorem AS3 {x lo hi:Operand} {T:TypeId} {l:List UInt8} {k k':IntKind} {a b:Nat} (hx:rev r x=some (.string (bs l))) (hlo:rev r lo=some (.int k a)) (hhi:rev r hi=some (.int k' b)) (hT:P.underlying T=some .string) (hab:a≤b) (hb:b≤l.length) :
    Val P r W chg news { dst,op:=.slice T x (some lo) (some hi) none,type:=ty,pos,after,guard:=gd } (.string (bs ((l.drop a).take (b - a)))) :=
  ⟨fun ac w ha _=>by
    simp [execOp,ha.eval hx,ha.eval hlo,ha.eval hhi,Instr.sliceAt,Instr.slice,Instr.sliceBounds,run_underlying hT,Aq9 (P:=P) (y:=(bs l).size) (w:=w) (v:=Value.int k' (b:Int)) rfl (by rw [Al5];exact hb),Aq9 (P:=P) (y:=b) (w:=w) (v:=Value.int k (a:Int)) rfl hab,AQ2]⟩
theorem Bc3 {x hi:Operand} {T:TypeId} {l:List UInt8} {k':IntKind} {b:Nat} (hx:rev r x=some (.string (bs l))) (hhi:rev r hi=some (.int k' b)) (hT:P.underlying T=some .string) (hb:b≤l.length) :
    Val P r W chg news { dst,op:=.slice T x none (some hi) none,type:=ty,pos,after,guard:=gd } (.string (bs (l.take b))) :=
  ⟨fun ac w ha _=>by
    simp [execOp,ha.eval hx,ha.eval hhi,Instr.sliceAt,Instr.slice,Instr.sliceBounds,run_underlying hT,Aq9 (P:=P) (y:=(bs l).size) (w:=w) (v:=Value.int k' (b:Int)) rfl (by rw [Al5];exact hb),AQ2]⟩
theorem AD9 {x lo:Operand} {T:TypeId} {l:List UInt8} {k:IntKind} {a:Nat} (hx:rev r x=some (.string (bs l))) (hlo:rev r lo=some (.int k a)) (hT:P.underlying T=some .string) (ha':a≤l.length) :
    Val P r W chg news { dst,op:=.slice T x (some lo) none none,type:=ty,pos,after,guard:=gd } (.string (bs (l.drop a))) :=
  ⟨fun ac w ha _=>by
    have e:(l.drop a).take ((bs l).size - a)=l.drop a:=by rw [Al5];exact List.take_of_length_le (by simp)
    simp [execOp,ha.eval hx,ha.eval hlo,Instr.sliceAt,Instr.slice,Instr.sliceBounds,run_underlying hT,Aq9 (P:=P) (y:=(bs l).size) (w:=w) (v:=Value.int k (a:Int)) rfl (by rw [Al5];exact ha'),AQ2,e]⟩
theorem AI6 {x y:Operand} {T yt:TypeId} {a b:List UInt8} (hx:rev r x=some (.string (bs a))) (hy:rev r y=some (.string (bs b))) (h:a.length + b.length≤9223372036854775807) :
    Val P r W chg news { dst,op:=.binOp .add T x y yt,type:=ty,pos,after,guard:=gd } (.string (bs (a++b))) :=
  ⟨fun ac w ha _=>by
    have h1:¬ (((bs a).size + (bs b).size:Nat):Int) > IntKind.i64.max:=by
      rw [Al5,Al5]
      have:IntKind.i64.max=9223372036854775807:=by decide
      omega
    have h2:(Op.stringOp .add (bs a) (bs b)).run P w = .ok (.string (bs (a++b))) w:=by
      unfold Op.stringOp;simp only [if_neg h1,Sem.run_pure,Cu3]
    simp [execOp,ha.eval hx,ha.eval hy,eqGuard,binOp_string_add,h2]⟩
theorem Av7 {x y:Operand} {T yt:TypeId} {a b:List UInt8} (hx:rev r x=some (.string (bs a))) (hy:rev r y=some (.string (bs b))) :
    Val P r W chg news { dst,op:=.binOp .eql T x y yt,type:=ty,pos,after,guard:=gd } (.bool (decide (a=b))) :=
  ⟨fun ac w ha _=>by
    have e:(a == b)=decide (a=b):=by rw [Bool.eq_iff_iff];simp
    simp [execOp,ha.eval hx,ha.eval hy,eqGuard,binOp_string_eql,BA5,e]⟩
theorem Av6 {x y:Operand} {T yt:TypeId} {a b:List UInt8} (hx:rev r x=some (.string (bs a))) (hy:rev r y=some (.string (bs b))) :
    Val P r W chg news { dst,op:=.binOp .neq T x y yt,type:=ty,pos,after,guard:=gd } (.bool (!decide (a=b))) :=
  ⟨fun ac w ha _=>by
    have e:(a == b)=decide (a=b):=by rw [Bool.eq_iff_iff];simp
    simp [execOp,ha.eval hx,ha.eval hy,eqGuard,binOp_string_neq,BA5,e]⟩
end
/-! ### Maps whose keys are pairs of numbers -/
def pk (p:Nat×Nat):Value:=.agg #[.int .i64 (p.1:Int),.int .u64 (p.2:Int)]
def entsG:Nat→List ((Nat×Nat)×Value)→List MapEntry
  | _,[]=>[]
  | i,x::l=>{ key:=pk x.1,val:=x.2,born:=i }::entsG (i + 1) l
def mapG (l:List ((Nat×Nat)×Value)):Obj:=.map (entsG 0 l).toArray l.length
def gIdx:List ((Nat×Nat)×Value)→Nat×Nat→Option (Nat×Value)
  | [],_=>none
  | x::l,a=>if x.1=a then some (0,x.2) else (gIdx l a).map fun p=>(p.1 + 1,p.2)
def gFind (l:List ((Nat×Nat)×Value)) (a:Nat×Nat):Option Value:=(gIdx l a).map (·.2)
theorem Bi6:∀ (l:List ((Nat×Nat)×Value)) (i:Nat) (x:(Nat×Nat)×Value),entsG i (l++[x])=entsG i l++[{ key:=pk x.1,val:=x.2,born:=i + l.length }]
  | [],i,x=>by simp [entsG]
  | y::l,i,x=>by
    simp only [List.cons_append,entsG,Bi6 l (i + 1) x,List.length_cons];rw [show i + 1 + l.length=i + (l.length + 1) by omega]
theorem Cn2 {l:List ((Nat×Nat)×Value)} {a:Nat×Nat} {v:Value} (h:gFind l a=some v):(a,v)∈l:=by
  induction l with
  | nil=>cases h
  | cons x l ih =>
    unfold gFind gIdx at h
    split at h
    · rename_i hx
      simp at h
      subst hx h;simp
    · rw [Option.map_map] at h
      have h2:gFind l a=some v:=by
        unfold gFind
        cases hg:gIdx l a with
        | none=>rw [hg] at h;cases h
        | some p=>rw [hg] at h;simpa using h
      exact List.mem_cons_of_mem _ (ih h2)
theorem Cn1 {l:List ((Nat×Nat)×Value)} {a:Nat×Nat} (h:∀ e∈l,e.1 ≠ a):gIdx l a=none:=by
  induction l with
  | nil=>rfl
  | cons x l ih =>
    unfold gIdx;rw [if_neg (h x (by simp)),ih (fun e he=>h e (List.mem_cons_of_mem _ he))];rfl
theorem BH0 {l:List ((Nat×Nat)×Value)} {a:Nat×Nat} (h:gFind l a=none):∀ e∈l,e.1 ≠ a:=by
  induction l with
  | nil=>intro e he;cases he
  | cons x l ih =>
    unfold gFind gIdx at h
    split at h
    · simp at h
    · rename_i hx
      intro e he
      rcases List.mem_cons.1 he with rfl | he
      · exact hx
      · refine ih ?_ e he
        unfold gFind
        cases hg:gIdx l a with
        | none=>rfl
        | some p=>rw [hg] at h;simp at h
def keyPairB (P:Program) (k:TypeId):Bool:=match P.underlying k with
  | some (.struct fs)=>match fs.toList with
    | [f,g]=>decide (f.name ≠ "_") && decide (g.name ≠ "_") && f.offset == 0 && g.offset == 1 && (P.underlying f.type).any isIntD && (P.underlying g.type).any isIntD
    | _=>false
  | _=>false
def mapKB (P:Program) (T:TypeId):Option (TypeId×TypeId):=match P.underlying T with
  | some (.map k e)=>some (k,e)
  | _=>none
structure Keyed (P:Program) (T k E:TypeId):Prop where
  map:mapKB P T=some (k,E)
  fields:keyPairB P k=true
  agg:aggB P k=true
  eq:∀ a b c d:Int,eqF P 8 k [.int .i64 a,.int .u64 b] [.int .i64 c,.int .u64 d]=some (decide (a=c) && (decide (b=d) && true))
section
variable {P:Program} {ops:Array Oper} {Q:Exit→Act→World→Prop} {n:Nat} {r:Regs} {ds:List Deferred} {W:World} {chg news:Blks} {rest:List Oper}
variable {d:Nat} {ty:TypeId} {pos:String} {after:Array Edge} {dst:Option Tmp} {gd:Option (Nat×Bool)}
theorem Keyed.und {T k E:TypeId} (h:Keyed P T k E):P.underlying T=some (.map k E):=by
  have:=h.map
  unfold mapKB at this
  split at this
  · rename_i hu;cases this;exact hu
  · cases this
theorem Keyed.str {T k E:TypeId} (h:Keyed P T k E):∃ f g q q',P.underlying k=some (.struct #[f,g])∧f.name ≠ "_"∧g.name ≠ "_"∧f.offset=0∧g.offset=1∧P.underlying f.type=some (.int q)∧P.underlying g.type=some (.int q'):=by
  have h1:=h.fields;unfold keyPairB at h1
  split at h1
  · rename_i fs hu
    split at h1
    · rename_i f g hfs
      simp only [Bool.and_eq_true,decide_eq_true_eq,beq_iff_eq] at h1;obtain ⟨⟨⟨⟨⟨a1,a2⟩,a3⟩,a4⟩,a5⟩,a6⟩:=h1;obtain ⟨q,hq⟩:=Bc1 a5;obtain ⟨q',hq'⟩:=Bc1 a6
      have e:fs = #[f,g]:=by
        have:=congrArg List.toArray hfs
        simpa using this
      exact ⟨f,g,q,q',by rw [hu,e],a1,a2,a3,a4,hq,hq'⟩
    · cases h1
  · cases h1
theorem Keyed.same {T k E:TypeId} (h:Keyed P T k E) (a b:Nat×Nat) (w:World):(Op.equal k (pk a) (pk b)).run P w = .ok (decide (a=b)) w:=by
  have h1:=Cg7 9992 8 k _ _ _ w (h.eq (a.1:Int) (a.2:Int) (b.1:Int) (b.2:Int));rw [(AG2 h.agg _).2,(AG2 h.agg _).2] at h1
  have e:decide (a=b)=(decide ((a.1:Int)=b.1) && (decide ((a.2:Int)=b.2) && true)):=by
    rw [Bool.eq_iff_iff];simp only [Bool.and_eq_true,decide_eq_true_eq,and_true,Prod.ext_iff];omega
  rw [e];exact h1
theorem Keyed.check {T k E:TypeId} (h:Keyed P T k E) (e:Bool) (a:Nat×Nat) (w:World):(Instr.checkKey e 10000 k (pk a)).run P w = .ok () w:=by
  obtain ⟨f,g,q,q',hu,n1,n2,o1,o2,u1,u2⟩:=h.str
  have hi:∀ (t:TypeId) (q:IntKind) (kk:IntKind) (v:Int),P.underlying t=some (.int q)→(Instr.checkKey e 9999 t (.int kk v)).run P w = .ok () w:=fun t q kk v hq=>by
    rw [show (9999:Nat)=9998 + 1 from rfl];unfold Instr.checkKey;simp [run_underlying hq]
  have p1:(part f.type #[.int .i64 (a.1:Int),.int .u64 (a.2:Int)] 0).run P w = .ok (.int .i64 (a.1:Int)) w:=Ao8 u1 rfl rfl;have p2:(part g.type #[.int .i64 (a.1:Int),.int .u64 (a.2:Int)] 1).run P w = .ok (.int .u64 (a.2:Int)) w:=Ao8 u2 rfl rfl;rw [show (10000:Nat)=9999 + 1 from rfl];unfold Instr.checkKey pk;simp [run_underlying hu,n1,n2,o1,o2,p1,p2,hi _ _ _ _ u1,hi _ _ _ _ u2]
theorem Keyed.asking {T k E:TypeId} (h:Keyed P T k E) (a:Nat×Nat) (w:World):∀ (l:List ((Nat×Nat)×Value)) (i j:Nat),(Instr.findAsking k (pk a) (entsG i l) j).run P w = .ok ((gIdx l a).map fun p=>(j + p.1,p.2)) w
  | [],_,_=>rfl
  | x::l,i,j=>by
    unfold entsG Instr.findAsking gIdx;have h1:=h.same a x.1 w
    by_cases hx:x.1=a
    · subst hx
      simp at h1
      simp [h1]
    · have hx2:¬ a=x.1:=fun e=>hx e.symm
      simp only [hx2,decide_false] at h1;simp only [Sem.run_bind,h1,Result.andThen_ok,Bool.false_eq_true,if_false,if_neg hx,Keyed.asking h a w l (i + 1) (j + 1)]
      cases gIdx l a with
      | none=>rfl
      | some p=>simp;omega
theorem Keyed.find {T k E:TypeId} (h:Keyed P T k E) (a:Nat×Nat) (l:List ((Nat×Nat)×Value)) (w:World):(Instr.findKey k (pk a) (entsG 0 l)).run P w = .ok (gIdx l a) w:=by
  obtain ⟨f,g,q,q',hu,_⟩:=h.str;have h2:=h.asking a w l 0 0;have e:((gIdx l a).map fun p=>(0 + p.1,p.2))=gIdx l a:=by cases gIdx l a <;> simp
  rw [e] at h2
  cases l with
  | nil=>simp [Instr.findKey,run_underlying hu,entsG,Instr.findNow,gIdx]
  | cons x l =>
    have h3:Instr.findNow (.struct #[f,g]) (pk a) (entsG 0 (x::l)) 0=none:=by
      unfold entsG Instr.findNow;rfl
    simp [Instr.findKey,run_underlying hu,h3,h2]
theorem BL0 {x i:Operand} {T k E:TypeId} {b:Nat} {l:List ((Nat×Nat)×Value)} {a:Nat×Nat} {z:Value} (hx:rev r x=some (.map (some b))) (hi:rev r i=some (pk a)) (hb:∀ w,Mem W chg news w→w.heap[b]? = some (mapG l)) (hT:Keyed P T k E) (hz:zeroV P E=some z) :
    Val P r W chg news { dst,op:=.lookup T x i true,type:=ty,pos,after,guard:=gd } (.tuple #[(gFind l a).getD z,.bool (gFind l a).isSome]) :=
  ⟨fun ac w ha hm=>by
    have hbb:w.heap[b]? = some (.map (entsG 0 l).toArray l.length):=hb w hm
    have hzz:(zeroValue E).run P w = .ok z w:=by
      unfold zeroV at hz
      cases hi:P.info? E with
      | none=>simp [hi] at hz
      | some i =>
        simp [hi] at hz
        simp [zeroValue,typeInfo,hi,hz]
    unfold gFind;simp only [execOp,ha.eval hx,ha.eval hi,Instr.lookup,Sem.run_bind,run_underlying hT.und,Result.andThen_ok,MapKept.run_getObj_map hbb,Sem.run_pure,hT.check,hT.find]
    cases h:gIdx l a with
    | none=>simp [hzz]
    | some p=>simp⟩
theorem AX4 {w:World} {T k E:TypeId} {b:Nat} {l:List ((Nat×Nat)×Value)} {a:Nat×Nat} {v:Value} (hb:w.heap[b]? = some (mapG l)) (hT:Keyed P T k E) (hk:gIdx l a=none) :
    (Instr.mapUpdate T (.map (some b)) (pk a) v).run P w = .ok () { w with heap:=w.heap.setIfInBounds b (mapG (l++[(a,v)])) }:=by
  have e1:mapG (l++[(a,v)]) = .map ((entsG 0 l).toArray.push { key:=pk a,val:=v,born:=l.length }) (l.length + 1):=by
    unfold mapG;rw [Bi6];simp
  unfold mapG at hb;rw [e1];have hf:=hT.find a l w;rw [hk] at hf;simp only [Instr.mapUpdate,Sem.run_bind,run_underlying hT.und,Result.andThen_ok,MapKept.run_getObj_map hb,hT.check,hf,MapKept.run_setObj_map _ hb]
theorem BB6 {x i y:Operand} {T k E:TypeId} {b:Nat} {l:List ((Nat×Nat)×Value)} {a:Nat×Nat} {v:Value} {chg':Blks} (hx:rev r x=some (.map (some b))) (hi:rev r i=some (pk a)) (hy:rev r y=some v) (hu:Upd chg b (mapG l) (mapG (l++[(a,v)])) chg') (hT:Keyed P T k E) (hk:gIdx l a=none) :
    Sto P r W chg news { dst,op:=.mapUpdate T x i y,type:=ty,pos,after,guard:=gd } chg' news :=
  ⟨fun ac w ha hm=>by
    have hb:=(hm.chgd _ _ hu.mem).2;obtain ⟨s1,s2⟩:=Au8 (o':=mapG (l++[(a,v)])) hb;refine ⟨{ w with heap:=w.heap.setIfInBounds b (mapG (l++[(a,v)])) },by simp [execOp,ha.eval hx,ha.eval hi,ha.eval hy,AX4 hb hT hk],hm.upd_chg hu rfl rfl rfl (by simp) (fun k _ hk=>s2 k hk) s1⟩⟩
theorem AG6 {T:TypeId}:New P r W chg news { dst,op:=.makeMap T none,type:=ty,pos,after,guard:=gd } (fun b=>.map (some b)) (mapG []) :=
  ⟨fun a w _ _=>by simp [execOp,Instr.makeMap,newObj,Sem.run,mapG,entsG]⟩
end
end Go.Eng
/- The engine: calls that turn a block into one of some. No program is in sight. -/
namespace Go.Eng
open Go Go.RowKit
def TurnsZ {β:Type} (b:Nat) (ob:β→Obj) (v:β→Value) (I:β→Prop) (W:World) (e:Ending) (w:World):Prop:=∃ x,I x∧e = .returned (v x)∧Mem W [(b,ob x)] [] w
section
variable {P:Program} {ops:Array Oper} {Q:Exit→Act→World→Prop} {n:Nat} {r:Regs} {ds:List Deferred} {W:World} {chg news:Blks} {rest:List Oper} {d:Nat}
theorem AB3 {β:Type} {o:Oper} {f:FuncId} {args:Array Value} {v:β→Value} {I:β→Prop} {b:Nat} {o0:Obj} {ob:β→Obj} {nf:β→Blks} (hi:IsCall P r o f args) (hg:guardB ops r o.guard=some true) (hd:o.dst=some d) (hn:Nat.ble (d + 1) n=true)
    (hu:∀ x,Upd news b o0 (ob x) (nf x)) (hc:∀ w,Mem W chg news w→Calls P f args w (TurnsZ b ob v I w)) (h:∀ x,I x→RunL P ops Q n rest ((d,v x)::r) ds W chg (nf x)):RunL P ops Q n (o::rest) r ds W chg news :=
  RunL.call hg hd (fun a w s=>hi.runs a w s.agree) hc (fun a w e w' s hR=>by
    obtain ⟨x,hx,rfl,hm⟩:=hR;have s2:=s.put (Nat.le_of_ble_eq_true hn) (v x);exact h x hx _ _ ⟨s2.size,s2.agree,s2.defers,s.mem.turn_new (hu x) hm⟩)
variable {K:Act→World→Prop} {i:Nat}
theorem Be5 {β:Type} {o:Oper} {f:FuncId} {args:Array Value} {v:β→Value} {I:β→Prop} {b:Nat} {o0:Obj} {ob:β→Obj} {cf:β→Blks} (ho:ops[i]? = some o) (hi:IsCall P r o f args) (hg:guardB ops r o.guard=some true) (hd:o.dst=some d) (hn:Nat.ble (d + 1) n=true)
    (hu:∀ x,Upd chg b o0 (ob x) (cf x)) (hc:∀ w,Mem W chg news w→Calls P f args w (TurnsZ b ob v I w)) (h:∀ x,I x→RunK n K ((d,v x)::r) ds W (cf x) news):RunI P ops Q n i K r ds W chg news :=
  RunI.call ho hi hg hc (fun a w e w' s hR=>by
    obtain ⟨x,hx,rfl,hm⟩:=hR;have s2:=s.put (Nat.le_of_ble_eq_true hn) (v x);simp only [hd];exact h x hx _ _ ⟨s2.size,s2.agree,s2.defers,s.mem.turn_chg (hu x) hm⟩)
theorem Bc6 {β:Type} {fn:Func} {b:Nat} {ob:β→Obj} {o:Obj} {v:β→Value} {I:β→Prop} (x:β) (hx:I x) {u:Value} (ho:o=ob x) (hv:ResVs P r ([(b,o)]++news) fn u) (he:u=v x):RunE (bodyPost P fn (TurnsZ b ob v I W)) n .ret r [] W [(b,o)] news :=
  RunE.ret (chg:=[(b,o)]) hv (fun _ hm=>⟨x,hx,by rw [he],by rw [← ho];exact hm.drop⟩)
theorem AK2 {w:World} {T e:TypeId} {b:Addr} {k c:Nat} (hT:P.underlying T=some (.slice e)):(Op.equal T (.slice (some b) k c) (.slice none 0 0)).run P w = .ok false w:=by
  have h:∀ d,(Op.equalIn (d + 1) T (.slice (some b) k c) (.slice none 0 0)).run P w = .ok false w:=fun d=>by simp [Op.equalIn,run_underlying hT]
  exact h 9999
variable {ty:TypeId} {pos:String} {after:Array Edge} {dst:Option Tmp} {gd:Option (Nat×Bool)}
theorem Az2 {x:Operand} {T yt e:TypeId} {b:Addr} {k c:Nat} (hx:rev r x=some (.slice (some b) k c)) (hT:P.underlying T=some (.slice e)) :
    Val P r W chg news { dst,op:=.binOp .eql T x (.const (.slice none 0 0)) yt,type:=ty,pos,after,guard:=gd } (.bool false) :=
  ⟨fun a w ha _=>by
    have h:=AK2 (P:=P) (w:=w) (b:=b) (k:=k) (c:=c) hT;simp [execOp,ha.eval hx,BigFrame.eval_const,eqGuard,binOp,h]⟩
theorem Pick.app {r l:Blks} (h:Pick r l):∀ a:Blks,Pick (a++r) (a++l)
  | []=>h
  | (_,_)::a=>.cons .here rfl (Pick.app h a)
end
end Go.Eng
/- The engine: strings of runes and of bytes. No program is in sight. -/
namespace Go.Eng
open Go Go.RowKit
section
variable {P:Program} {r:Regs} {W:World} {chg news:Blks} {dst:Option Tmp} {gd:Option (Nat×Bool)} {ty:TypeId} {pos:String} {after:Array Edge}
theorem Ag6 {x:Operand} {T e:TypeId} {sz s2 n:Nat} {z:Own} {xs:List Value} (hx:rev r x=some (ownV z n)) (hT:slB P T=some (e,sz)) (h:OwnOk s2 z n xs) :
    Val P r W chg news { dst,op:=.call { callee:=.builtin .len,args:=#[x],argTypes:=#[T] },type:=ty,pos,after,guard:=gd } (.int .i64 (n:Int)):=by
  rw [Ad9 h] at hx;exact Al1 hx hT
theorem Aq5 {ops:Array Oper} {Q:Exit→Act→World→Prop} {n:Nat} {ds:List Deferred} {rest:List Oper} {d:Nat} {β:Type} {o:Oper} {f:FuncId} {args:Array Value} {v:β→Value} {U:β→Blks} (A T:Blks) (hne:news=A++T) (hi:IsCall P r o f args) (hg:guardB ops r o.guard=some true) (hd:o.dst=some d) (hn:Nat.ble (d + 1) n=true)
    (hc:∀ w,Mem W chg news w→Calls P f args w (News v (fun b=>U b++[]) w)) (h:∀ b,RunL P ops Q n rest ((d,v b)::r) ds W chg (A++(U b++T))):RunL P ops Q n (o::rest) r ds W chg news :=
  RunL.call hg hd (fun a w s=>hi.runs a w s.agree) hc (fun a w e w' s hR=>by
    obtain ⟨b,rfl,hm⟩:=hR;have s2:=s.put (Nat.le_of_ble_eq_true hn) (v b);have h1:Mem W chg ((U b++[])++news) w':=s.mem.trans hm;rw [List.append_nil,hne] at h1;exact h b _ _ ⟨s2.size,s2.agree,s2.defers,h1.perm (List.perm_append_comm_assoc _ _ _)⟩)
theorem CE8 (z:Value) (n:Nat):madeCells #[z] (n * 1)=(List.replicate n z).toArray:=by
  unfold madeCells;refine Array.ext (by simp) fun i h1 h2=>?_
  simp [Nat.mod_one]
theorem New.makeSlice {x y:Operand} {T e:TypeId} {n by_:Nat} {z:Value} {kx ky:IntKind} (hx:rev r x=some (.int kx (n:Int))) (hy:rev r y=some (.int ky (n:Int))) (hT:apB P T=some (e,1,by_)) (hz:zeroB P e=some [z]) (hn:n≤1000000) (hb:by_≤1000) :
    New P r W chg news { dst,op:=.makeSlice T x y,type:=ty,pos,after,guard:=gd } (fun b=>.slice (some ⟨b,0,none⟩) n n) (.cells (List.replicate n z).toArray e (0,0)) :=
  ⟨fun a w ha _=>by
    obtain ⟨hu,i,zz,hi,hzi,h2,h3,_,_⟩:=Br5 hT;unfold zeroB at hz;simp only [hi,hzi,Option.bind_some,Option.map_some,Option.some.injEq] at hz
    have hz2:zz.cells = #[z]:=by
      apply Array.toList_inj.1
      rw [hz]
    have hb2:(i.bytes:Int) * (n:Int)≤281474976710656:=by
      have h4:i.bytes * n≤1000 * 1000000:=Nat.mul_le_mul (by omega) hn;have h5:((i.bytes * n:Nat):Int)≤281474976710656:=by omega
      rwa [Int.natCast_mul] at h5
    have hr:=run_makeSlice (P:=P) w T e i zz hu hi hzi kx ky n n (by omega) (Int.le_refl _) (by rw [h2];omega) hb2 (by omega);rw [h2,hz2,Int.toNat_natCast,CE8] at hr;simp [execOp,ha.eval hx,ha.eval hy,hr]⟩
end
end Go.Eng
namespace Go.Eng
open Go Go.RowKit
def isStrD:TypeDesc→Bool
  | .string=>true
  | _=>false
def sEntsF:Nat→List (List UInt8×Value)→List MapEntry
  | _,[]=>[]
  | i,x::l=>{ key:=.string (bs x.1),val:=x.2,born:=i }::sEntsF (i + 1) l
def mapS (l:List (List UInt8×Value)):Obj:=.map (sEntsF 0 l).toArray l.length
def sIdx:List (List UInt8×Value)→List UInt8→Option (Nat×Value)
  | [],_=>none
  | x::l,a=>if x.1=a then some (0,x.2) else (sIdx l a).map fun p=>(p.1 + 1,p.2)
def sFind (l:List (List UInt8×Value)) (a:List UInt8):Option Value:=(sIdx l a).map (·.2)
theorem Bg2:∀ (l:List (List UInt8×Value)) (i:Nat) (x:List UInt8×Value),sEntsF i (l++[x])=sEntsF i l++[{ key:=.string (bs x.1),val:=x.2,born:=i + l.length }]
  | [],i,x=>by simp [sEntsF]
  | y::l,i,x=>by
    simp only [List.cons_append,sEntsF,Bg2 l (i + 1) x,List.length_cons];rw [show i + 1 + l.length=i + (l.length + 1) by omega]
theorem AD2 (a:List UInt8):∀ (l:List (List UInt8×Value)) (i j:Nat),Instr.findNow .string (.string (bs a)) (sEntsF i l) j=some ((sIdx l a).map fun p=>(j + p.1,p.2))
  | [],_,_=>rfl
  | x::l,i,j=>by
    unfold sEntsF Instr.findNow sIdx
    by_cases h:x.1=a
    · have h2:(bs a == bs x.1)=true:=(MapKept.bytes_beq _ _).2 (by rw [h])
      simp only [Instr.sameNow,h2,if_pos h,Option.map_some,Nat.add_zero]
    · have h2:(bs a == bs x.1)=false:=by
        rw [Bool.eq_false_iff];exact fun e=>h (Dk4.1 ((MapKept.bytes_beq _ _).1 e)).symm
      simp only [Instr.sameNow,h2,if_neg h];rw [AD2 a l (i + 1) (j + 1)]
      cases sIdx l a with
      | none=>rfl
      | some p=>simp;omega
def mapSB (P:Program) (T:TypeId):Option TypeId:=match P.underlying T with
  | some (.map k e)=>if (P.underlying k).any isStrD then some e else none
  | _=>none
theorem Bh3 {P:Program} {T E:TypeId} (h:mapSB P T=some E):∃ k,P.underlying T=some (.map k E)∧P.underlying k=some .string:=by
  unfold mapSB at h
  split at h
  · rename_i k e hu
    split at h
    · rename_i hk
      cases h
      refine ⟨k,hu,?_⟩
      cases hd:P.underlying k with
      | none=>rw [hd] at hk;cases hk
      | some d=>rw [hd] at hk;cases d <;> first | rfl | cases hk
    · cases h
  · cases h
section
variable {P:Program} {ops:Array Oper} {Q:Exit→Act→World→Prop} {n:Nat} {r:Regs} {ds:List Deferred} {W:World} {chg news:Blks} {rest:List Oper}
variable {d:Nat} {ty:TypeId} {pos:String} {after:Array Edge} {dst:Option Tmp} {gd:Option (Nat×Bool)}
theorem Bd7 {w:World} {T E:TypeId} {b:Nat} {l:List (List UInt8×Value)} {a:List UInt8} {z:Value} {ok:Bool} (hb:w.heap[b]? = some (mapS l)) (hT:mapSB P T=some E) (hz:zeroV P E=some z) :
    (Instr.lookup T (.map (some b)) (.string (bs a)) ok).run P w = .ok (if ok then .tuple #[(sFind l a).getD z,.bool (sFind l a).isSome] else (sFind l a).getD z) w:=by
  obtain ⟨k,hu,hq⟩:=Bh3 hT
  have hzz:(zeroValue E).run P w = .ok z w:=by
    unfold zeroV at hz
    cases hi:P.info? E with
    | none=>simp [hi] at hz
    | some i =>
      simp [hi] at hz
      simp [zeroValue,typeInfo,hi,hz]
  have hf:(Instr.findKey k (.string (bs a)) (sEntsF 0 l)).run P w = .ok (sIdx l a) w:=by
    have:=AD2 a l 0 0
    refine (MapKept.run_findKey hq this).trans ?_
    cases sIdx l a <;> simp
  have hc:∀ e,(Instr.checkKey e 10000 k (.string (bs a))).run P w = .ok () w:=fun e=>by
    rw [show (10000:Nat)=9999 + 1 from rfl];unfold Instr.checkKey;simp [run_underlying hq]
  unfold mapS at hb;unfold sFind;simp only [Instr.lookup,Sem.run_bind,run_underlying hu,Result.andThen_ok,MapKept.run_getObj_map hb,Sem.run_pure];rw [hc];simp only [Result.andThen_ok,hf]
  cases h:sIdx l a with
  | none=>cases ok <;> simp [hzz]
  | some p=>cases ok <;> simp
theorem Br9 {x i:Operand} {T E:TypeId} {b:Nat} {l:List (List UInt8×Value)} {a:List UInt8} {z:Value} (hx:rev r x=some (.map (some b))) (hi:rev r i=some (.string (bs a))) (hb:∀ w,Mem W chg news w→w.heap[b]? = some (mapS l)) (hT:mapSB P T=some E) (hz:zeroV P E=some z) :
    Val P r W chg news { dst,op:=.lookup T x i true,type:=ty,pos,after,guard:=gd } (.tuple #[(sFind l a).getD z,.bool (sFind l a).isSome]) :=
  ⟨fun ac w ha hm=>by
    have h1:=Bd7 (P:=P) (ok:=true) (a:=a) (hb w hm) hT hz;simp at h1
    simp [execOp,ha.eval hx,ha.eval hi,h1]⟩
theorem Az8 {x i:Operand} {T E:TypeId} {b:Nat} {l:List (List UInt8×Value)} {a:List UInt8} {z v:Value} (hx:rev r x=some (.map (some b))) (hi:rev r i=some (.string (bs a))) (hb:∀ w,Mem W chg news w→w.heap[b]? = some (mapS l)) (hT:mapSB P T=some E) (hz:zeroV P E=some z) (ho:Value.tuple #[(sFind l a).getD z,.bool (sFind l a).isSome]=v) :
    Val P r W chg news { dst,op:=.lookup T x i true,type:=ty,pos,after,guard:=gd } v:=ho ▸ Br9 hx hi hb hT hz
theorem BC4 {T:TypeId}:New P r W chg news { dst,op:=.makeMap T none,type:=ty,pos,after,guard:=gd } (fun b=>.map (some b)) (mapS []) :=
  ⟨fun a w _ _=>by simp [execOp,Instr.makeMap,newObj,Sem.run,mapS,sEntsF]⟩
theorem AO9 {w:World} {T E:TypeId} {b:Nat} {l:List (List UInt8×Value)} {a:List UInt8} {v:Value} (hb:w.heap[b]? = some (mapS l)) (hT:mapSB P T=some E) (hk:sIdx l a=none) :
    (Instr.mapUpdate T (.map (some b)) (.string (bs a)) v).run P w = .ok () { w with heap:=w.heap.setIfInBounds b (mapS (l++[(a,v)])) }:=by
  obtain ⟨k,hu,hq⟩:=Bh3 hT
  have hf:(Instr.findKey k (.string (bs a)) (sEntsF 0 l)).run P w = .ok none w:=by
    have:=AD2 a l 0 0
    rw [hk] at this;exact MapKept.run_findKey hq this
  have hc:∀ e,(Instr.checkKey e 10000 k (.string (bs a))).run P w = .ok () w:=fun e=>by
    rw [show (10000:Nat)=9999 + 1 from rfl];unfold Instr.checkKey;simp [run_underlying hq]
  have e1:mapS (l++[(a,v)]) = .map ((sEntsF 0 l).toArray.push { key:=.string (bs a),val:=v,born:=l.length }) (l.length + 1):=by
    unfold mapS;rw [Bg2];simp
  unfold mapS at hb;rw [e1];simp only [Instr.mapUpdate,Sem.run_bind,run_underlying hu,Result.andThen_ok,MapKept.run_getObj_map hb,hc,hf,MapKept.run_setObj_map _ hb]
end
end Go.Eng
/- The engine: calls in a world that has blocks of the caller's; calls that may panic there; ranges over functions whose rounds may panic. No program is in sight. -/
namespace Go.Eng
open Go Go.RowKit
open Classical in
theorem Pick.cnt:∀ {l l':Blks} (_:∀ x,l.count x≤l'.count x),Pick l l'
  | [],_,_=>.nil
  | (b,o)::l,l',h=>by
    have h1:(b,o)∈l':=by
      have:=h (b,o)
      rw [List.count_cons_self] at this;exact List.count_pos_iff.1 (by omega)
    have take:∀ {l':Blks},(b,o)∈l'→∃ l2,Take (b,o) l' l2:=by
      intro l'
      induction l' with
      | nil=>intro h;cases h
      | cons y l' ih =>
        intro h
        rcases List.mem_cons.1 h with rfl | h
        · exact ⟨_,.here⟩
        · obtain ⟨l2,h2⟩:=ih h;exact ⟨_,.there h2⟩
    obtain ⟨l2,h2⟩:=take h1;refine .cons h2 rfl (Pick.cnt fun x=>?_)
    have h3:=h x;rw [h2.perm.count_eq,List.count_cons,List.count_cons] at h3;omega
def Grow {β:Type} (W0:World) (chg:Blks) (v:β→Value) (nw:β→Blks) (I:β→Prop) (e:Ending) (w:World):Prop:=∃ b:β,I b∧e = .returned (v b)∧Mem W0 chg (nw b) w
def GrowT {β γ:Type} (W0:World) (chg:Blks) (v:β→Value) (nw:β→Blks) (I:β→Prop) (mis:Int→Value) (kk:γ→Int) (np:γ→Blks) (J:γ→Prop) (e:Ending) (w:World):Prop :=
  (∃ b:β,I b∧e = .returned (v b)∧Mem W0 chg (nw b) w)∨(∃ c:γ,J c∧e = .panicked [{ v:=mis (kk c),recovered:=false }]∧Mem W0 chg (np c) w)
section
variable {P:Program} {ops:Array Oper} {Q:Exit→Act→World→Prop} {n:Nat} {r:Regs} {ds:List Deferred} {W:World} {chg news:Blks} {rest:List Oper} {d:Nat}
theorem Af7 {f:FuncId} {fn:Func} {c:Code} {vs:List Value} {R:Ending→World→Prop} {w:World} (hm:Mem W chg news w) (hf:P.funcs[f]? = some fn) (hb:fn.body=some c) (hn:Nat.ble vs.length fn.ntmps=true)
    (h:RunC P (bodyPost P fn R) fn.ntmps c (args0 0 vs) [] W chg news):Calls P f vs.toArray w R:=by
  have s:=Ay0 (Nat.le_of_ble_eq_true hn) (Mem.refl w) (vs:=vs);exact calls_of_wp hf hb (h _ _ ⟨s.size,s.agree,s.defers,hm⟩)
theorem Av8 {β:Type} {o:Oper} {f:FuncId} {args:Array Value} {v:β→Value} {nw:β→Blks} {I:β→Prop} (hi:IsCall P r o f args) (hg:guardB ops r o.guard=some true) (hd:o.dst=some d) (hn:Nat.ble (d + 1) n=true)
    (hc:∀ w,Mem W chg news w→Calls P f args w (Grow W chg v nw I)) (h:∀ b,I b→RunL P ops Q n rest ((d,v b)::r) ds W chg (nw b)):RunL P ops Q n (o::rest) r ds W chg news :=
  RunL.call hg hd (fun a w s=>hi.runs a w s.agree) hc (fun a w e w' s hR=>by
    obtain ⟨b,hI,rfl,hm⟩:=hR;have s2:=s.put (Nat.le_of_ble_eq_true hn) (v b);exact h b hI _ _ ⟨s2.size,s2.agree,s2.defers,hm⟩)
theorem Ca5 {i:Nat} {K:Act→World→Prop} {β:Type} {o:Oper} {f:FuncId} {args:Array Value} {v:β→Value} {nw:β→Blks} {I:β→Prop} (ho:ops[i]? = some o) (hi:IsCall P r o f args) (hg:guardB ops r o.guard=some true) (hd:o.dst=some d) (hn:Nat.ble (d + 1) n=true)
    (hc:∀ w,Mem W chg news w→Calls P f args w (Grow W chg v nw I)) (h:∀ b,I b→RunK n K ((d,v b)::r) ds W chg (nw b)):RunI P ops Q n i K r ds W chg news :=
  RunI.call ho hi hg hc (fun a w e w' s hR=>by
    obtain ⟨b,hI,rfl,hm⟩:=hR;have s2:=s.put (Nat.le_of_ble_eq_true hn) (v b);simp only [hd];exact h b hI _ _ ⟨s2.size,s2.agree,s2.defers,hm⟩)
theorem Ax3 {β γ:Type} {o:Oper} {f:FuncId} {args:Array Value} {v:β→Value} {nw:β→Blks} {I:β→Prop} {mis:Int→Value} {kk:γ→Int} {np:γ→Blks} {J:γ→Prop} (hi:IsCall P r o f args) (hg:guardB ops r o.guard=some true) (hd:o.dst=some d) (hn:Nat.ble (d + 1) n=true)
    (hc:∀ w,Mem W chg news w→Calls P f args w (GrowT W chg v nw I mis kk np J)) (hp:∀ c,J c→RunE Q n (.panic [{ v:=mis (kk c),recovered:=false }]) r ds W chg (np c)) (h:∀ b,I b→RunL P ops Q n rest ((d,v b)::r) ds W chg (nw b)):RunL P ops Q n (o::rest) r ds W chg news :=
  RunL.call hg hd (fun a w s=>hi.runs a w s.agree) hc (fun a w e w' s hR=>by
    rcases hR with ⟨b,hI,rfl,hm⟩ | ⟨c,hJ,rfl,hm⟩
    · have s2:=s.put (Nat.le_of_ble_eq_true hn) (v b)
      exact h b hI _ _ ⟨s2.size,s2.agree,s2.defers,hm⟩
    · exact hp c hJ a w' ⟨s.size,s.agree,s.defers,hm⟩)
theorem BL6 {i:Nat} {K:Act→World→Prop} {β γ:Type} {o:Oper} {f:FuncId} {args:Array Value} {v:β→Value} {nw:β→Blks} {I:β→Prop} {mis:Int→Value} {kk:γ→Int} {np:γ→Blks} {J:γ→Prop} (ho:ops[i]? = some o) (hi:IsCall P r o f args) (hg:guardB ops r o.guard=some true) (hd:o.dst=some d) (hn:Nat.ble (d + 1) n=true)
    (hc:∀ w,Mem W chg news w→Calls P f args w (GrowT W chg v nw I mis kk np J)) (hp:∀ c,J c→RunE Q n (.panic [{ v:=mis (kk c),recovered:=false }]) r ds W chg (np c)) (h:∀ b,I b→RunK n K ((d,v b)::r) ds W chg (nw b)):RunI P ops Q n i K r ds W chg news :=
  RunI.call ho hi hg hc (fun a w e w' s hR=>by
    rcases hR with ⟨b,hI,rfl,hm⟩ | ⟨c,hJ,rfl,hm⟩
    · have s2:=s.put (Nat.le_of_ble_eq_true hn) (v b)
      simp only [hd];exact h b hI _ _ ⟨s2.size,s2.agree,s2.defers,hm⟩
    · exact hp c hJ a w' ⟨s.size,s.agree,s.defers,hm⟩)
theorem Cw1 {β:Type} {fn:Func} {v:β→Value} {nw:β→Blks} {I:β→Prop} (x:β) (hx:I x) {u:Value} (hv:ResVs P r (chg++news) fn u) (he:u=v x) (hp:Pick (nw x) news):RunE (bodyPost P fn (Grow W chg v nw I)) n .ret r [] W chg news :=
  RunE.ret hv (fun _ hm=>⟨x,hx,by rw [he],hm.pick hp⟩)
theorem AG5 {β:Type} {fn:Func} {v:β→Value} {nw:β→Blks} {I:β→Prop} (x:β) (hx:I x) {u:Value} (hv:ResVs P r (chg++news) fn u) (he:u=v x) (hp:Pick (nw x) news):RunE (bodyPost P fn (Grow W chg v nw I)) n .normal r [] W chg news :=
  AO4 hv (fun _ hm=>⟨x,hx,by rw [he],hm.pick hp⟩)
section
variable {β γ:Type} {fn:Func} {v:β→Value} {nw:β→Blks} {I:β→Prop} {mis:Int→Value} {kk:γ→Int} {np:γ→Blks} {J:γ→Prop}
theorem Am8 (x:β) (hx:I x) {u:Value} (hv:ResVs P r (chg++news) fn u) (he:u=v x) (hp:Pick (nw x) news):RunE (bodyPost P fn (GrowT W chg v nw I mis kk np J)) n .ret r [] W chg news :=
  RunE.ret hv (fun _ hm=>.inl ⟨x,hx,by rw [he],hm.pick hp⟩)
theorem Ae4 (c:γ) (hc:J c) {k:Int} (hk:kk c=k) (hp:Pick (np c) news):RunE (bodyPost P fn (GrowT W chg v nw I mis kk np J)) n (.panic [{ v:=mis k,recovered:=false }]) r [] W chg news:=fun _ w s =>
  ⟨s.defers,.inr ⟨c,hc,by rw [hk],s.mem.pick hp⟩⟩
end
end

/-! ### The code of one function that is known -/
def wpAt (f:FuncId) (P:Program) (c:Code) (Q:Exit→Act→World→Prop) (a:Act) (w:World):Prop :=
  ∀ (b:Frame) (k:List Item) (cs:List Frame),b.roundOf=none→b.fn=f →
    ∃ e a' w',Q e a' w'∧ArrivesIn (Machine.fenced P (Fr none)) P (lone (b.atR a (.code c::k)) cs w) b k cs e a' w'
section
variable {f:FuncId} {P:Program} {Q:Exit→Act→World→Prop} {a:Act} {w:World}
theorem CO9 {c:Code} {m:Nat} (h:c.wpIn (Fr none) m P Q a w):wpAt f P c Q a w:=fun b k cs hro _=>h b k cs hro trivial (room_wide _)
theorem Cy2 {x y:Code} (h:wpAt f P x (Exit.then (wpAt f P y Q) Q) a w):wpAt f P (.seq x y) Q a w:=by
  intro b k cs hro hb;have h0:(lone (b.atR a (.code (.seq x y)::k)) cs w).fenced P (Fr none):=fenced_calm (n:=9) trivial (room_wide _) rfl;obtain ⟨e,a₁,w₁,hq,harr⟩:=h b (.code y::k) cs hro hb
  cases e with
  | normal =>
    obtain ⟨e₂,a₂,w₂,hq₂,harr₂⟩:=hq b k cs hro hb;exact ⟨e₂,a₂,w₂,hq₂,.of_steps (.head h0 stepR_seq harr) harr₂⟩
  | exit id=>exact ⟨_,a₁,w₁,hq,.of_steps (.one h0 stepR_seq) (.pass (x:=.code y) rfl (fun _ _=>.inl (by simp)) harr)⟩
  | goto l=>exact ⟨_,a₁,w₁,hq,.of_steps (.one h0 stepR_seq) (.pass (x:=.code y) rfl (fun _ _=>.inl (by simp)) harr)⟩
  | ret=>exact ⟨_,a₁,w₁,hq,.of_steps (.one h0 stepR_seq) (.pass (x:=.code y) rfl (fun _ _=>.inl (by simp)) harr)⟩
  | panic ch=>exact ⟨_,a₁,w₁,hq,.of_steps (.one h0 stepR_seq) (.pass (x:=.code y) rfl (fun _ _=>.inl (by simp)) harr)⟩
  | outgrown=>exact ⟨_,a₁,w₁,hq,.of_steps (.one h0 stepR_seq) (.pass (x:=.code y) rfl (fun _ _=>.inl (by simp)) harr)⟩
theorem BS0 {id:Nat} {c:Code} (h:wpAt f P c (Exit.inBlock id Q) a w):wpAt f P (.block id c) Q a w:=by
  intro b k cs hro hb;have h0:(lone (b.atR a (.code (.block id c)::k)) cs w).fenced P (Fr none):=fenced_calm (n:=9) trivial (room_wide _) rfl;obtain ⟨e,a₁,w₁,hq,harr⟩:=h b (.inBlock id::k) cs hro hb
  cases e with
  | normal=>exact ⟨.normal,a₁,w₁,hq,.head h0 stepR_block (StepsIn.trans harr (.one (fenced_calm (n:=9) trivial (room_wide _) rfl) stepR_inBlock))⟩
  | exit id' =>
    by_cases hid:id'=id
    · simp only [Exit.inBlock,hid,if_true] at hq
      exact ⟨.normal,a₁,w₁,hq,.head h0 stepR_block (harr.1 k (by simp [exitTo,hid]))⟩
    · simp only [Exit.inBlock,hid,if_false] at hq
      have this:(id == id')=false:=by simp;exact fun h=>hid h.symm
      have hx:exitTo id' (.inBlock id::k)=exitTo id' k:=by simp [exitTo,this]
      exact ⟨.exit id',a₁,w₁,hq,fun k' hk=>.head h0 stepR_block (harr.1 k' (by rw [hx];exact hk)),
        fun hr' hk=>let ⟨k₁,h1,h2⟩:=harr.2 hr' (by rw [hx];exact hk);⟨k₁,h1,.head h0 stepR_block h2⟩⟩
  | goto l =>
    have hx:gotoIn l (.inBlock id::k)=gotoIn l k:=by simp [gotoIn]
    exact ⟨_,a₁,w₁,hq,fun k' hk=>.head h0 stepR_block (harr.1 k' (by rw [hx];exact hk)),
      fun hr' hk=>let ⟨k₁,h1,h2⟩:=harr.2 hr' (by rw [hx];exact hk);⟨k₁,h1,.head h0 stepR_block h2⟩⟩
  | ret=>exact ⟨_,a₁,w₁,hq,.of_steps (.one h0 stepR_block) harr⟩
  | panic ch=>exact ⟨_,a₁,w₁,hq,.of_steps (.one h0 stepR_block) harr⟩
  | outgrown=>exact ⟨_,a₁,w₁,hq,.of_steps (.one h0 stepR_block) harr⟩

def rangeEnd (f:FuncId) (P:Program) (l:Nat) (Q:Exit→Act→World→Prop) (a:Act):Ending→World→Prop
  | .returned _,w=>∃ jump w',(Instr.endLoop l).run P w = .ok jump w'∧(match jump with
    | none=>Q .normal a w'
    | some c=>wpAt f P c Q a w')
  | .panicked c,w=>Q (.panic c) a w
  | .outgrown,_=>LetsOut Q
theorem Bd4 {g:Operand} {ps:Array Tmp} {assign body:Code} {l:Nat} {mark:List Deferred} {w₁ w₂ w₃:World} {d:Deferred} {gf:FuncId} {args:Array Value}
    (he:(Instr.enterLoop f a.tmps ps assign body none).run P w = .ok (l,mark) w₁) (hres:(resolve a.eval (rangeCall g l) 0).run P w₁ = .ok d w₂) (hinv:(invoke d.target d.args).run P w₂ = .ok (.enter gf args) w₃)
    (hcall:CallsIn (Fr none) 8 P gf args w₃ (rangeEnd f P l Q { a with defers:=mark++a.defers })):wpAt f P (.rangeFunc g ps assign body) Q a w:=by
  intro b k cs hro hb;rw [← hb,← hro] at he;have h0:(lone (b.atR a (.code (.rangeFunc g ps assign body)::k)) cs w).fenced P (Fr none):=fenced_lone (.inl trivial) (fun _ _=>trivial) (room_wide _);have henter:=stepR_rangeFunc (P:=P) (b:=b) (a:=a) (k:=k) (cs:=cs) (w:=w) he hres hinv;obtain ⟨e,w₄,fr,hR,hsteps,_,hleave⟩:=hcall.2 (b.atR { a with defers:=mark++a.defers } (.inRangeFunc l::k)::cs) (room_wide _)
  cases e with
  | outgrown =>
    obtain ⟨a₀,w₀,hq⟩:=hR;exact ⟨.outgrown,a₀,w₀,hq,.inr (Outgrown.of_steps (.one henter) hsteps)⟩
  | returned v =>
    have hl:(lone fr (b.atR { a with defers:=mark++a.defers } (.inRangeFunc l::k)::cs) w₄).fenced P (Fr none):=fenced_leaving (n:=9) trivial (room_wide _) hleave;obtain ⟨jump,w₅,hend,hj⟩:=hR
    have sback:StepsIn (Machine.fenced P (Fr none)) P (lone (b.atR a (.code (.rangeFunc g ps assign body)::k)) cs w) (lone (b.atR { a with defers:=mark++a.defers } ((jump.map Item.code).toList++k)) cs w₅):=by
      refine .head h0 henter (StepsIn.trans hsteps (.head hl ?_ (.one (fenced_calm (n:=9) (fr:=b.atR { a with defers:=mark++a.defers } (.endRangeFunc l::k)) trivial (room_wide _) rfl) (stepR_endRangeFunc hend))))
      rw [← finish_atR_inRangeFunc l v];exact step_leave_returned hleave
    cases jump with
    | none=>exact ⟨.normal,_,w₅,hj,sback⟩
    | some c =>
      obtain ⟨e',a'',w₆,hq,harr⟩:=hj b k cs hro hb;exact ⟨e',a'',w₆,hq,.of_steps sback harr⟩
  | panicked chain =>
    have hl:(lone fr (b.atR { a with defers:=mark++a.defers } (.inRangeFunc l::k)::cs) w₄).fenced P (Fr none):=fenced_leaving (n:=9) trivial (room_wide _) hleave;refine ⟨.panic chain,_,w₄,hR,.inRangeFunc l::k,.head h0 henter (StepsIn.trans hsteps (.one hl ?_))⟩
    rw [← Frame.raise_atR];exact step_leave_panicked hleave

/-! ### A round that may panic -/
def roundEnd (P:Program) (l:Nat) (R:Ending→World→Prop):Exit→Act→World→Prop
  | .normal,_,w=>∃ v w',(Instr.endRound l none).run P w = .ok v w'∧R (.returned v) w'
  | .ret,_,w=>∃ v w',(Instr.endRound l (some .ret)).run P w = .ok v w'∧R (.returned v) w'
  | .exit id,_,w=>∃ v w',(Instr.endRound l (some (.exit id))).run P w = .ok v w'∧R (.returned v) w'
  | .panic c,a,w=>a.defers=[]∧R (.panicked c) w
  | _,_,_=>False
theorem CC5 {l m:Nat} {tmps:Array Value} {assign body:Code} {R:Ending→World→Prop} {fn0:Func} (hfn:P.funcs[f]? = some fn0)
    (h:assign.wpIn (Fr (some l)) 9 P (Exit.then (fun a₁ w₁=>∃ w₂,(Instr.beginRound l).run P w₁ = .ok () w₂∧body.wpIn (Fr (some l)) 9 P (roundEnd P l R) a₁ w₂) (fun _ _ _=>False)) { tmps:=tmps,defers:=[] } w) :
    RoundIn (Fr none) m P l f tmps assign body w R:=by
  refine ⟨trivial,fun c cs _=>?_⟩
  let b:Frame:={ (default:Frame) with fn:=f,kind:=.normal,roundOf:=some l }
  have hb0:Frame.round l f tmps assign body .normal=b.atR { tmps:=tmps,defers:=[] } [.code assign,.beginRound,.code body]:=by
    simp [Frame.round,Frame.atR,b]
  obtain ⟨e,a₁,w₁,hq,harr⟩:=h b [.beginRound,.code body] (c::cs) rfl trivial (room_wide _);rw [← hb0] at harr
  cases e with
  | normal =>
    obtain ⟨w₂,hbr,hbody⟩:=hq
    have s1:StepsIn (Machine.fenced P (Fr (some l))) P (lone (b.atR a₁ [.beginRound,.code body]) (c::cs) w₁) (lone (b.atR a₁ [.code body]) (c::cs) w₂) :=
      .one (fenced_calm (n:=9) (fr:=b.atR a₁ [.beginRound,.code body]) trivial (room_wide _) rfl) (stepR_beginRound rfl hbr)
    obtain ⟨e₂,a₂,w₃,hq₂,harr₂⟩:=hbody b [] (c::cs) rfl trivial (room_wide _)
    cases e₂ with
    | normal =>
      obtain ⟨v,w₄,hend,hR⟩:=hq₂;exact ⟨.returned v,w₄,hR,(StepsIn.trans harr s1).trans (StepsIn.trans harr₂ (.one (fenced_calm (n:=9) (fr:=b.atR a₂ []) trivial (room_wide _) rfl) (stepR_round_end rfl rfl hend)))⟩
    | ret =>
      obtain ⟨v,w₄,hend,hR⟩:=hq₂;obtain ⟨k₁,hs⟩:=harr₂.2 rfl;exact ⟨.returned v,w₄,hR,(StepsIn.trans harr s1).trans (StepsIn.trans hs (.one (fenced_calm (n:=9) (fr:=b.atR a₂ (.code .ret::k₁)) trivial (room_wide _) rfl) (stepR_round_ret rfl rfl hend)))⟩
    | exit id =>
      obtain ⟨v,w₄,hend,hR⟩:=hq₂;obtain ⟨k₁,hk,hs⟩:=harr₂.2 rfl rfl;exact ⟨.returned v,w₄,hR,(StepsIn.trans harr s1).trans (StepsIn.trans hs (.one (fenced_calm (n:=9) (fr:=b.atR a₂ (.code (.exit id)::k₁)) trivial (room_wide _) rfl) (stepR_round_exit rfl rfl hk hend)))⟩
    | goto t=>exact hq₂.elim
    | panic chain =>
      obtain ⟨hd,hR⟩:=hq₂;obtain ⟨todo,hs⟩:=harr₂;have hl:({ b.atR a₂ todo with mode:=.panicking chain }:Frame).leaving P w₃ (.panicked chain):=⟨rfl,hd,fn0,hfn⟩;exact ⟨.panicked chain,w₃,hR,(StepsIn.trans harr s1).trans (StepsIn.trans hs (.one (fenced_leaving (n:=9) trivial (room_wide _) hl) (step_leave_panicked hl)))⟩
    | outgrown=>exact hq₂.elim
  | exit id=>exact hq.elim
  | goto t=>exact hq.elim
  | ret=>exact hq.elim
  | panic chain=>exact hq.elim
  | outgrown=>exact hq.elim
end
end Go.Eng
/- The engine: ranges over functions whose rounds may panic: the iterator's contract, the loop, leaving. No program is in sight. -/
namespace Go.Eng
open Go Go.RowKit
def SeqQ {α:Type} (P:Program) (gf:FuncId) (lb:Array Value) (encs:α→List Value) (eb:α→Blks) (itb:Blks) (mis:Int→Value) (S Sp:List α→Prop) (Sq:Int→List α→Prop) (N:Nat) (W0:World):Prop :=
  ∀ {X:Type} (l:Nat) (U:X→Blks) (I:List α→X→Prop) (Ix:X→Prop) (Ip:List PanicEntry→X→Prop) (rest:Blks) (w:World) (x0:X),
    (∀ pre v x tl w1,I pre x→Sp (pre++[v])→pre.length < N→Mem W0 [] (eb v++(U x++tl)) w1→YieldAt (Fr none) 8 P l (encs v).toArray w1 fun e w'=>∃ x',Mem W0 [] (U x'++tl) w'∧((e = .returned (.bool true)∧I (pre++[v]) x')∨(e = .returned (.bool false)∧Ix x')∨(∃ c,e = .panicked c∧Ip c x'))) →
    I [] x0→Mem W0 [] (U x0++(itb++rest)) w →
    CallsIn (Fr none) 8 P gf (#[.func (.yield l) #[] #[]]++lb) w fun e w'=>∃ x',Mem W0 [] (U x'++rest) w' ∧
      ((∃ v,e = .returned v∧((∃ xs,S xs∧I xs x')∨Ix x'))∨(∃ c,e = .panicked c∧Ip c x')∨(∃ k xs,e = .panicked [{ v:=mis k,recovered:=false }]∧Sq k xs∧I xs x'))
section
variable {f:FuncId} {ro:Option Nat} {P:Program} {ops:Array Oper} {Q:Exit→Act→World→Prop} {n:Nat} {r:Regs} {ds:List Deferred} {W:World} {chg news:Blks} {rest:List Oper} {d:Nat}
def RunCF (f:FuncId) (P:Program) (Q:Exit→Act→World→Prop) (n:Nat) (c:Code) (r:Regs) (ds:List Deferred) (W:World) (chg news:Blks):Prop:=∀ a w,St n r ds W chg news a w→wpAt f P c Q a w
theorem Ak4 {c:Code} (h:RunC P Q n c r ds W chg news):RunCF f P Q n c r ds W chg news:=fun a w s=>CO9 (wpIn_wide (n:=9) |>.2 (h a w s))
theorem RunCF.seq {x y:Code} (h:RunCF f P (Exit.then (wpAt f P y Q) Q) n x r ds W chg news):RunCF f P Q n (.seq x y) r ds W chg news:=fun a w s=>Cy2 (h a w s)
theorem RunCF.block {id:Nat} {c:Code} (h:RunCF f P (Exit.inBlock id Q) n c r ds W chg news):RunCF f P Q n (.block id c) r ds W chg news:=fun a w s=>BS0 (h a w s)
theorem RunEF.next {y:Code} {Q':Exit→Act→World→Prop} (h:RunCF f P Q n y r ds W chg news):RunE (Exit.then (wpAt f P y Q) Q') n .normal r ds W chg news:=fun a w s=>h a w s
theorem AD7 {fn:Func} {c:Code} {vs:List Value} {R:Ending→World→Prop} {w:World} (hm:Mem W chg news w) (hf:P.funcs[f]? = some fn) (hb:fn.body=some c) (hn:Nat.ble vs.length fn.ntmps=true)
    (h:RunCF f P (bodyPostM Fence.wide 9 P fn R) fn.ntmps c (args0 0 vs) [] W chg news):Calls P f vs.toArray w R:=by
  have s0:=Ay0 (Nat.le_of_ble_eq_true hn) (Mem.refl w) (vs:=vs);have h2:=h _ _ ⟨s0.size,s0.agree,s0.defers,hm⟩;refine (callsIn_wide (n:=9)).1 ⟨trivial,fun cs hr=>?_⟩
  let b:Frame:={ (default:Frame) with fn:=f,kind:=.normal,roundOf:=none }
  have henter:Frame.enter P f vs.toArray .normal=b.atR { tmps:=vs.toArray++Array.replicate (fn.ntmps - vs.toArray.size) undef,defers:=[] } [.code c]:=by
    simp [Frame.enter,Frame.atR,hf,hb,b]
  obtain ⟨e,a',w',hq,harr⟩:=h2 b [] cs rfl rfl;rw [← henter] at harr
  cases e with
  | normal =>
    obtain ⟨e',w'',fr',hR,hs,hfn,hl⟩:=leaves_stepsInM (F:=Fence.wide) (n:=9) a'.defers .returning w' { b.atR a' [] with mode:=.returning } cs rfl rfl rfl hf rfl trivial hr hq;exact ⟨e',w'',fr',hR,ComesIn.of_steps (StepsIn.trans harr (.one (fenced_calm (n:=9) (fr:=b.atR a' []) trivial hr rfl) (stepR_end rfl))) hs,hfn,hl⟩
  | ret =>
    obtain ⟨todo,hs₀⟩:=harr.1 rfl;obtain ⟨e',w'',fr',hR,hs,hfn,hl⟩:=leaves_stepsInM (F:=Fence.wide) (n:=9) a'.defers .returning w' { b.atR a' todo with mode:=.returning } cs rfl rfl rfl hf rfl trivial hr hq;exact ⟨e',w'',fr',hR,ComesIn.of_steps hs₀ hs,hfn,hl⟩
  | panic chain =>
    obtain ⟨todo,hs₀⟩:=harr;obtain ⟨e',w'',fr',hR,hs,hfn,hl⟩:=leaves_stepsInM (F:=Fence.wide) (n:=9) a'.defers (.panicking chain) w' { b.atR a' todo with mode:=.panicking chain } cs rfl rfl rfl hf rfl trivial hr hq;exact ⟨e',w'',fr',hR,ComesIn.of_steps hs₀ hs,hfn,hl⟩
  | exit id=>exact hq.elim
  | goto l=>exact hq.elim
  | outgrown=>exact ⟨.outgrown,w',b,hq,harr.resolve_left (by simp [b]),rfl,trivial⟩

theorem Ch0 {m k l:Nat} {fn:FuncId} {tmps:Array Value} {assign body:Code} {w:World} {R:Ending→World→Prop} {ro':Option Nat} (h:RoundIn (Fr ro) m P l fn tmps assign body w R):RoundIn (Fr ro') k P l fn tmps assign body w R:=by
  refine ⟨trivial,fun c cs _=>?_⟩
  obtain ⟨e,w',h1,h2⟩:=h.2 c cs (by cases ro <;> exact room_wide _);have e1:Machine.fenced P (Fr ro)=Machine.fenced P (Fr ro'):=by cases ro <;> cases ro' <;> rfl
  rw [e1] at h2;exact ⟨e,w',h1,h2⟩
theorem AG3 {β γ:Type} {o:Oper} {l:Nat} {args:Array Value} {v:β→Value} {nw:β→Blks} {I:β→Prop} {cc:γ→List PanicEntry} {np:γ→Blks} {J:γ→Prop} (hi:IsYield P r o l args) (hg:guardB ops r o.guard=some true) (hd:o.dst=some d) (hn:Nat.ble (d + 1) n=true)
    (hy:∀ w,Mem W chg news w→YieldAt (Fr none) 8 P l args w fun e w'=>(∃ b,I b∧e = .returned (v b)∧Mem W chg (nw b) w')∨(∃ c,J c∧e = .panicked (cc c)∧Mem W chg (np c) w'))
    (hp:∀ c,J c→RunE Q n (.panic (cc c)) r ds W chg (np c)) (h:∀ b,I b→RunLR ro P ops Q n rest ((d,v b)::r) ds W chg (nw b)) (hnd:notDefer o=true:=by rfl):RunLR ro P ops Q n (o::rest) r ds W chg news:=fun a w s =>
  Aj9 (Ad7 s.agree hg) hnd fun K hK=>by
    obtain ⟨fn,tmps,assign,body,hy1,hy2⟩:=hy w s.mem;rw [hi.runs a w s.agree,hy1,Oper.uponIn_round];refine ⟨fun h=>(by cases ro <;> cases h),(Ch0 hy2).mono ?_⟩
    rintro e w' (⟨b,hb,rfl,hm⟩ | ⟨c,hc,rfl,hm⟩)
    · show K _ _
      rw [hd];have s2:=s.put (Nat.le_of_ble_eq_true hn) (v b);exact hK _ _ (h b hb _ _ ⟨s2.size,s2.agree,s2.defers,hm⟩)
    · exact hp c hc a w' ⟨s.size,s.agree,s.defers,hm⟩

/-! ### The loop -/
def recO (fn:FuncId) (tmps:Array Value) (ps:Array Tmp) (assign body:Code) (D:Nat) (st:LoopState) (pe:Option Code):Obj:=.loop { state:=st,pending:=pe,fn,tmps,params:=ps,assign,body,defers:=D }
def dfrO:Obj:=.deferred (some [])
theorem Mem.put {w:World} {l:Nat} {o:Obj} (o':Obj) (h:Mem W chg ((l,o)::news) w):Mem W chg ((l,o')::news) (w.putObj l o') :=
  h.upd_new .here rfl rfl rfl (by simp [World.putObj]) (fun k _ hk=>World.putObj_heap_other hk) (World.putObj_heap_same (lt_of_block (h.newd _ _ (List.mem_cons_self ..)).2))
def BodyQ2 {X:Type} (W:World) (l:Nat) (ro:Obj) (Dd:Nat×Obj) (U:X→Blks) (tl:Blks) (Iv:X→Prop) (Stp:Code→X→Prop) (Pan:List PanicEntry→X→Prop):Exit→Act→World→Prop
  | .normal,_,w=>∃ x,Iv x∧Mem W [] ((l,ro)::Dd::(U x++tl)) w
  | .ret,_,w=>∃ x,Stp .ret x∧Mem W [] ((l,ro)::Dd::(U x++tl)) w
  | .exit id,_,w=>∃ x,Stp (.exit id) x∧Mem W [] ((l,ro)::Dd::(U x++tl)) w
  | .panic c,a,w=>a.defers=[]∧∃ x,Pan c x∧Mem W [] ((l,ro)::Dd::(U x++tl)) w
  | _,_,_=>False
section
variable {X:Type} {l:Nat} {ro:Obj} {Dd:Nat×Obj} {U:X→Blks} {tl:Blks} {Iv:X→Prop} {Stp:Code→X→Prop} {Pan:List PanicEntry→X→Prop}
theorem AQ7 (x:X) (hx:Iv x) (hp:Pick ((l,ro)::Dd::(U x++tl)) news):RunE (BodyQ2 W l ro Dd U tl Iv Stp Pan) n .normal r ds W [] news:=fun _ _ s=>⟨x,hx,s.mem.pick hp⟩
end
theorem RunCF.range {α X:Type} {g:Operand} {gf p q id N:Nat} {lb:Array Value} {enc:α→Value} {eb:α→Blks} {itb:Blks} {mis:Int→Value} {S Sp:List α→Prop} {Sq:Int→List α→Prop} {oA:Oper} {body:Code} {fn0:Func} (hf0:P.funcs[f]? = some fn0)
    (U:X→Blks) (Iv:List α→X→Prop) (Stp:Code→X→Prop) (Pan:List PanicEntry→X→Prop) (x0:X) (i0:Iv [] x0) (rst:Blks) (hn:Pick (U x0++(itb++rst)) news)
    (hg:rev r g=some (.func (.func gf) #[] lb)) (he:Enters P gf) (hseq:SeqQ P gf lb (fun x=>[enc x]) eb itb mis S Sp Sq N W)
    (hp:Nat.ble (p + 1) n=true) (hq:Nat.ble (q + 1) n=true) (hA:∀ v,pureV ((p,v)::r) oA.op=some v) (hAg:oA.guard=none) (hAd:oA.dst=some q) (hAn:notDefer oA=true)
    (hbody:∀ l D ob pre v x tl,Iv pre x→Sp (pre++[v])→pre.length < N→RunCR (some l) P (BodyQ2 W l ob (D,dfrO) U tl (Iv (pre++[v])) Stp Pan) n body ((q,enc v)::(p,enc v)::r) [] W [] ((l,ob)::(D,dfrO)::(eb v++(U x++tl))))
    (hdone:∀ D xs x,S xs→Iv xs x→RunE Q n .normal r ({ target:=.collected D,args:=#[] }::ds) W [] ((D,dfrO)::(U x++rst)))
    (hstop:∀ D c x,Stp c x→RunCF f P Q n c r ({ target:=.collected D,args:=#[] }::ds) W [] ((D,dfrO)::(U x++rst)))
    (hpan:∀ D c x,Pan c x→RunE Q n (.panic c) r ({ target:=.collected D,args:=#[] }::ds) W [] ((D,dfrO)::(U x++rst)))
    (hown:∀ D k xs x,Sq k xs→Iv xs x→RunE Q n (.panic [{ v:=mis k,recovered:=false }]) r ({ target:=.collected D,args:=#[] }::ds) W [] ((D,dfrO)::(U x++rst))) :
    RunCF f P Q n (.rangeFunc g #[p] (.region id #[oA] false) body) r ds W [] news:=fun a w s=>by
  have hm:=s.mem.pick hn;obtain ⟨rc,hrc⟩:∃ rc:LoopState→Option Code→Obj,rc=recO f a.tmps #[p] (.region id #[oA] false) body w.heap.size:=⟨_,rfl⟩;obtain ⟨W1,hW1⟩:∃ W1,(w.alloc dfrO).alloc (rc .ready none)=W1:=⟨_,rfl⟩
  have hm1:Mem W [] ((w.heap.size + 1,rc .ready none)::(w.heap.size,dfrO)::(U x0++(itb++rst))) W1:=by
    have h1:=(hm.alloc dfrO).alloc (rc .ready none);rw [hW1] at h1;simpa using h1
  refine Bd4 (l:=w.heap.size + 1) (mark:=[{ target:=.collected w.heap.size,args:=#[] }]) (w₁:=W1) (w₂:=W1) (w₃:=W1) (d:={ target:=.fn (.func gf) lb,args:=#[.func (.yield (w.heap.size + 1)) #[] #[]] }) (gf:=gf) (args:=#[.func (.yield (w.heap.size + 1)) #[] #[]]++lb) ?_ ?_ ?_ ?_
  · rw [← hW1,hrc];exact run_enterLoop_outer _ _ _ _ _
  · simp only [resolve,s.agree.eval hg]
    simp [go_sem]
  · simp [invoke,go_sem,he _ _]
  have hU:∀ (D:Nat) (ob:Obj) (x:X) (tl:Blks) (w':World),Mem W [] ((w.heap.size + 1,ob)::(D,dfrO)::(U x++tl)) w'→Mem W [] ((D,dfrO)::(U x++tl)) w':=fun D ob x tl w' h=>h.fewer (List.sublist_cons_self _ _)
  refine (hseq (X:=X×LoopState×Option Code) (w.heap.size + 1) (fun y=>(w.heap.size + 1,rc y.2.1 y.2.2)::(w.heap.size,dfrO)::U y.1) (fun pre y=>Iv pre y.1∧y.2=(.ready,none)) (fun y=>∃ c,Stp c y.1∧y.2=(.done,some c)) (fun c y=>Pan c y.1∧y.2=(.busy,none)) rst W1 (x0,.ready,none) ?_ ⟨i0,rfl⟩ (by simpa using hm1)).mono ?_
  · rintro pre v ⟨x,st⟩ tl w1 ⟨hI,rfl⟩ hsp hlen hmem0
    have hmem:Mem W [] ((w.heap.size + 1,rc .ready none)::(w.heap.size,dfrO)::(eb v++(U x++tl))) w1:=hmem0.pick (Pick.cnt fun z=>by simp only [List.cons_append,List.count_append,List.count_cons];omega);have hl:w1.heap[w.heap.size + 1]? = some (rc .ready none):=(hmem.newd _ _ (List.mem_cons_self ..)).2;rw [hrc] at hl;have hy:=run_yield (P:=P) (args:=#[enc v]) hl rfl;refine ⟨f,_,_,_,hy,CC5 hf0 ?_⟩
    have hsz:p < a.tmps.size:=by rw [s.size];exact Nat.le_of_ble_eq_true hp
    have hsz2:q < a.tmps.size:=by rw [s.size];exact Nat.le_of_ble_eq_true hq
    have hag:Agree (({ tmps:=a.tmps,defers:=[] }:Act).put (some p) (enc v)) ((p,enc v)::r):=Agree.put (a:={ tmps:=a.tmps,defers:=[] }) (fun t u ht=>s.agree t u ht) hsz;have hag2:=hag.put (d:=q) (v:=enc v) (by simp [Act.put];exact hsz2);refine wpIn_region_lit (l:=[oA]) (wpListIn_plain hAg fun K2 hK2=>?_)
    refine ⟨fun _ _=>trivial,?_⟩
    rw [Oper.semAt_eq _ _ _ (Au7 hAn)];have hrun:=AK3 (P:=P) (o:=oA) hag (hA (enc v)) w1;have e2:(({ tmps:=a.tmps,defers:=[] }:Act).put (some p) (enc v))={ tmps:=(#[p].zip #[enc v]).foldl (fun t (pv:Nat×Value)=>t.setIfInBounds pv.1 pv.2) a.tmps,defers:=[] }:=by simp [Act.put]
    rw [e2] at hrun;rw [hrun,Oper.uponIn_value,hAd];refine hK2 _ _ ?_;refine ⟨_,run_beginRound hl rfl,?_⟩
    rw [← hrc] at hl;have hm2:=hmem.put (recO f a.tmps #[p] (.region id #[oA] false) body w.heap.size .busy none);rw [← hrc] at hm2;have eb:(Obj.loop { state:=.busy,pending:=none,fn:=f,tmps:=a.tmps,params:=#[p],assign:=.region id #[oA] false,body:=body,defers:=w.heap.size })=rc .busy none:=by rw [hrc];rfl
    have hb:=hbody (w.heap.size + 1) w.heap.size (rc .busy none) pre v x tl hI hsp hlen _ _ ⟨by simp [Act.put,s.size],hag2,rfl,hm2⟩;rw [e2] at hb;rw [eb];refine wpIn_mono (AH0 hb) ?_
    have fin:∀ (jump:Option Code) (x':X) (w3:World),Mem W [] ((w.heap.size + 1,rc .busy none)::(w.heap.size,dfrO)::(U x'++tl)) w3 →
        (Instr.endRound (w.heap.size + 1) jump).run P w3 = .ok (.bool jump.isNone) (w3.putObj (w.heap.size + 1) (rc (if jump.isNone then .ready else .done) jump)) ∧
        Mem W [] ((w.heap.size + 1,rc (if jump.isNone then .ready else .done) jump)::(w.heap.size,dfrO)::(U x'++tl)) (w3.putObj (w.heap.size + 1) (rc (if jump.isNone then .ready else .done) jump)):=fun jump x' w3 h3=>by
      have hl3:w3.heap[w.heap.size + 1]? = some (rc .busy none):=(h3.newd _ _ (List.mem_cons_self ..)).2;rw [hrc] at hl3;have h4:=run_endRound (P:=P) jump hl3;refine ⟨by rw [h4,hrc];rfl,h3.put _⟩
    rintro e a3 w3 hq3
    cases e with
    | normal =>
      obtain ⟨x',hx',h3⟩:=hq3;obtain ⟨h4,h5⟩:=fin none x' w3 h3;exact ⟨_,_,h4,(x',.ready,none),h5,.inl ⟨rfl,hx',rfl⟩⟩
    | ret =>
      obtain ⟨x',hx',h3⟩:=hq3;obtain ⟨h4,h5⟩:=fin (some .ret) x' w3 h3;exact ⟨_,_,h4,(x',.done,some .ret),h5,.inr (.inl ⟨rfl,.ret,hx',rfl⟩)⟩
    | exit id =>
      obtain ⟨x',hx',h3⟩:=hq3;obtain ⟨h4,h5⟩:=fin (some (.exit id)) x' w3 h3;exact ⟨_,_,h4,(x',.done,some (.exit id)),h5,.inr (.inl ⟨rfl,.exit id,hx',rfl⟩)⟩
    | goto t=>exact hq3.elim
    | panic c =>
      obtain ⟨hd,x',hx',h3⟩:=hq3;exact ⟨hd,(x',.busy,none),h3,.inr (.inr ⟨c,rfl,hx',rfl⟩)⟩
    | outgrown=>exact hq3.elim
  · rintro e w2 ⟨⟨x,st⟩,hmem,hcase⟩
    have hdf:∀ {z:Exit} {w':World},Mem W [] ((w.heap.size,dfrO)::(U x++rst)) w'→St n r ({ target:=.collected w.heap.size,args:=#[] }::ds) W [] ((w.heap.size,dfrO)::(U x++rst)) { a with defers:=[{ target:=.collected w.heap.size,args:=#[] }]++a.defers } w':=fun h=>⟨s.size,s.agree,by rw [← s.defers];rfl,h⟩
    have hl0:w2.heap[w.heap.size + 1]? = some (rc st.1 st.2):=(hmem.newd _ _ (List.mem_cons_self ..)).2;rw [hrc] at hl0
    rcases hcase with ⟨v,rfl,⟨xs,hS,hI,rfl⟩ | ⟨c,hc,rfl⟩⟩ | ⟨c,rfl,hc,rfl⟩ | ⟨k,xs,rfl,hS,hI,rfl⟩
    · exact ⟨none,_,run_endLoop (P:=P) hl0 (by simp),hdone _ xs x hS hI _ _ (hdf (z:=.normal) (hmem.putNew _))⟩
    · exact ⟨some c,_,run_endLoop (P:=P) hl0 (by simp),hstop _ c x hc _ _ (hdf (z:=.normal) (hmem.putNew _))⟩
    · exact hpan _ c x hc _ _ (hdf (z:=.normal) (hU _ _ _ _ _ hmem))
    · exact hown _ k xs x hS hI _ _ (hdf (z:=.normal) (hU _ _ _ _ _ hmem))
end
section
variable {P:Program} {n:Nat} {r:Regs} {W:World} {chg news:Blks} {ty:TypeId} {pos:String} {after:Array Edge} {dst:Option Tmp} {gd:Option (Nat×Bool)}
theorem AI9 {w:World} {T e:TypeId} {k c:Nat} (hT:P.underlying T=some (.slice e)):(Op.equal T (.slice none k c) (.slice none 0 0)).run P w = .ok true w:=by
  have h:∀ d,(Op.equalIn (d + 1) T (.slice none k c) (.slice none 0 0)).run P w = .ok true w:=fun d=>by simp [Op.equalIn,run_underlying hT]
  exact h 9999
theorem AE0 {x:Operand} {T yt e:TypeId} {k c:Nat} (hx:rev r x=some (.slice none k c)) (hT:P.underlying T=some (.slice e)) :
    Val P r W chg news { dst,op:=.binOp .eql T x (.const (.slice none 0 0)) yt,type:=ty,pos,after,guard:=gd } (.bool true) :=
  ⟨fun a w ha _=>by
    have h:=AI9 (P:=P) (w:=w) (k:=k) (c:=c) hT;simp [execOp,ha.eval hx,BigFrame.eval_const,eqGuard,binOp,h]⟩
theorem Bs0 {x:Operand} {T t t':TypeId} {v z:Value} (hx:rev r x=some (.iface t' v)) (hi:(P.underlying t).any (fun t=>match t with | .interface _=>false | _=>true)=true) (hne:Nat.beq t' t=false) (hz:zeroV P t=some z) :
    Val P r W chg news { dst,op:=.typeAssert x T t true,type:=ty,pos,after,guard:=gd } (.tuple #[z,.bool false]) :=
  ⟨fun a w ha _=>by
    have hne':¬ t'=t:=fun e=>by subst e;simp at hne
    have hzz:(zeroValue t).run P w = .ok z w:=by
      unfold zeroV at hz
      cases hi:P.info? t with
      | none=>simp [hi] at hz
      | some i=>simp [hi] at hz;simp [zeroValue,typeInfo,hi,hz]
    cases hu:P.underlying t with
    | none=>simp [hu] at hi
    | some d =>
      simp [hu] at hi
      cases d <;> simp at hi <;> simp [execOp,ha.eval hx,Instr.typeAssert,run_underlying hu,hne',hzz]⟩
end
theorem Ax4 {P:Program} {ops:Array Oper} {Q:Exit→Act→World→Prop} {n d:Nat} {r:Regs} {ds:List Deferred} {W:World} {chg news:Blks} {i:Nat} {K:Act→World→Prop} {β:Type} {o:Oper} {f:FuncId} {args:Array Value} {v:β→Value} {U:β→Blks} (A T:Blks) (hne:news=A++T) (ho:ops[i]? = some o) (hi:IsCall P r o f args) (hg:guardB ops r o.guard=some true) (hd:o.dst=some d) (hn:Nat.ble (d + 1) n=true)
    (hc:∀ w,Mem W chg news w→Calls P f args w (News v (fun b=>U b++[]) w)) (h:∀ b,RunK n K ((d,v b)::r) ds W chg (A++(U b++T))):RunI P ops Q n i K r ds W chg news :=
  RunI.call ho hi hg hc (fun a w e w' s hR=>by
    obtain ⟨b,rfl,hm⟩:=hR;have s2:=s.put (Nat.le_of_ble_eq_true hn) (v b);simp only [hd];refine h b _ _ ⟨s2.size,s2.agree,s2.defers,(s.mem.trans hm).pick (Pick.cnt fun x=>?_)⟩
    rw [hne];simp only [List.append_nil,List.count_append];omega)
theorem Af3 {P:Program} {f:FuncId} {args:Array Value} {w:World} {R R':Ending→World→Prop} (h:Calls P f args w R) (hr:∀ e w',R e w'→R' e w'):Calls P f args w R':=h.mono hr
end Go.Eng
/- The engine: strings that are appended to bytes; addresses that are compared, or seen as none of a type. No program is in sight. -/
namespace Go.Eng
open Go Go.RowKit
def byc (s:List UInt8):List Value:=s.map fun b=>.int .u8 (b.toNat:Int)
theorem BK4 (s:List UInt8):(byc s).length=s.length:=by simp [byc]
theorem Cu2 (s t:List UInt8):byc (s++t)=byc s++byc t:=by simp [byc]
theorem BK3 (s:List UInt8):Lib.strCells (bs s)=byc s:=rfl
def apsB (P:Program) (T U:TypeId):Option TypeId :=
  match P.underlying U with
  | some .string=>match P.underlying T with
    | some (.slice e)=>match P.info? e with
      | some i=>match i.zero with
        | some (.int .u8 0)=>if i.size=1∧i.bytes=1 then some e else none
        | _=>none
      | none=>none
    | _=>none
  | _=>none
theorem Cu7 {P:Program} {T U e:TypeId} (h:apsB P T U=some e):P.underlying T=some (.slice e)∧P.underlying U=some .string∧∃ i,P.info? e=some i∧i.zero=some (.int .u8 0)∧i.size=1∧i.bytes=1:=by
  unfold apsB at h
  split at h
  · rename_i hU
    split at h
    · rename_i e' hu
      split at h
      · rename_i i hi
        split at h
        · rename_i hz
          split at h
          · rename_i hc
            cases h
            exact ⟨hu,hU,i,hi,hz,hc.1,hc.2⟩
          · cases h
        · cases h
      · cases h
    · cases h
  · cases h
section
variable {P:Program} {ops:Array Oper} {Q:Exit→Act→World→Prop} {n:Nat} {r:Regs} {ds:List Deferred} {W:World} {chg news:Blks} {rest:List Oper}
variable {d:Nat} {ty:TypeId} {pos:String} {after:Array Edge} {dst:Option Tmp} {gd:Option (Nat×Bool)}
theorem BK7 {T U e:TypeId} {tt:Nat} (hT:apsB P T U=some e) {A B:Blks} {x:Own} {k:Nat} {xs:List Value} (s:List UInt8) {w:World} (hm:Mem W chg (A++(ownB e x xs++B)) w) (hx:OwnOk 1 x k xs)
    (b1:k + s.length≤140737488355328) :
    ∃ y w',(Builtin.append_ #[T,U] tt #[ownV x k,.string (bs s)]).run P w = .ok (ownV y (k + s.length)) w'∧OwnOk 1 y (k + s.length) (xs++byc s)∧Mem W chg (A++(ownB e y (xs++byc s)++B)) w':=by
  obtain ⟨hu,hU,i,hi,hz,hs1,hb1⟩:=Cu7 hT;have h63:k + s.length≤maxLen:=by simp only [maxLen];omega
  have hxl:xs.length=k:=by simpa using hx.len
  have hlen:(xs++byc s).length=(k + s.length) * 1:=by rw [List.length_append,hxl,BK4,Nat.mul_one]
  match x,hx,hm with
  | .none,hx,hm =>
    have hk:=hx.nil rfl;subst hk;obtain rfl:xs=[]:=List.eq_nil_of_length_eq_zero hxl;obtain ⟨v',w',hrun,ho,hg,hiff⟩:=Lib.run_append_own_string (P:=P) w w.heap.size T U tt e i hu hU hi hz hs1 hb1 (.slice none 0 0) 0 [] (World.ownsRow_nil w _ e 1) (bs s) (by rw [Al5];exact h63) (by rw [Al5];exact b1) (Nat.le_refl _);rw [Al5,BK3] at ho
    rcases ho.2 with ⟨rfl,h0⟩ | ⟨g,cap,cur,rfl,hge,hgb,hnc,hcm,hcs,htk⟩
    · exact ⟨none,w',hrun,⟨hlen,fun _=>h0,fun _ _ _ h=>by cases h⟩,hm.swap hg (fun b c r h=>by cases h)⟩
    · refine ⟨.some (g,cap,cur.toList.drop ((0 + s.length) * 1)),w',hrun,⟨hlen,fun h=>(by cases h),fun b c r h=>?_⟩,?_⟩
      · cases h
        refine ⟨hnc,hcm,?_⟩
        rw [← htk,List.take_append_drop];simpa using hcs
      · refine hm.swap hg (fun b c r h=>?_)
        cases h
        refine ⟨.inr hge,?_⟩
        rw [← htk,List.take_append_drop];simpa using hgb
  | .some (b,cap,r),hx,hm =>
    obtain ⟨c1,c2,c3⟩:=hx.cap b cap r rfl;have hbb:=(hm.newd b (.cells (xs++r).toArray e (0,0)) (List.mem_append_right _ (List.mem_append_left _ (by simp [ownB])))).2;have hown:w.ownsRow W.heap.size e 1 (ownV (.some (b,cap,r)) k) k xs:=hx.owns (fun b o hb=>hm.newd b o (List.mem_append_right _ (List.mem_append_left _ hb)))
    by_cases hfit:k + s.length≤cap
    · have hr:=Lib.run_append_room_string (P:=P) w T U tt e i hu hU hi hs1 b k cap (xs++r).toArray hbb (bs s) (by rw [Al5];exact hfit) (by rw [Al5];simp only [List.size_toArray];omega)
      rw [Al5,BK3] at hr;have e1:(xs++r).toArray.toList.take k=xs:=by simp [← hxl]
      rw [e1] at hr;refine ⟨.some (b,cap,((xs++r).drop (k + s.length))),_,hr,⟨hlen,fun h=>(by cases h),fun b' c' r' h=>?_⟩,?_⟩
      · cases h
        refine ⟨hfit,c2,?_⟩
        simp only [List.length_append,BK4,List.length_drop] at c3 ⊢;omega
      · refine hm.swap (⟨rfl,rfl,rfl,by simp,fun k _ hk=>setRow_other w b k _ (fun e=>hk (by simp [ownRow,e]))⟩) (fun b' c' r' h=>?_)
        cases h
        exact ⟨.inl ⟨_,_,rfl⟩,by simpa using setRow_heap w b (xs++r).toArray (xs++byc s++(xs++r).drop (k + s.length)).toArray e _ hbb⟩
    · have holds:∀ j u,xs[j]? = some u→w.cell? ((⟨b,0,none⟩:Addr).add j)=some u:=fun j u hj=>by
        have hj':=(List.getElem?_eq_some_iff.1 hj).1;rw [add_plain,Ae1 hbb];simp [List.getElem?_append_left hj',hj]
      have hr:=Lib.run_append_grow_string (P:=P) w T U tt e i (.int .u8 0) hu hU hi hz ⟨b,0,none⟩ k cap xs (by rw [hs1];simpa using hxl) holds (bs s) (by rw [Al5];omega) (by rw [Al5];omega) (by rw [hb1,Al5];exact growslice_fits (by omega) (by omega));rw [Al5,BK3] at hr;have hge:=grownCap_ge w (k + s.length) cap e;have hcm:grownCap w (k + s.length) cap e≤maxLen:=grownCap_le_maxLen w (k + s.length) cap e h63;refine ⟨.some (w.heap.size,grownCap w (k + s.length) cap e,(Builtin.zeroCells (Value.int .u8 0).cells (grownCap w (k + s.length) cap e - (k + s.length))).toList),_,hr,⟨hlen,fun h=>(by cases h),fun b' c' r' h=>?_⟩,?_⟩
      · cases h
        refine ⟨hge,hcm,?_⟩
        have hzl:∀ m,(Builtin.zeroCells (Value.int IntKind.u8 0).cells m).toList.length=m:=fun m=>by
          have hz1:(Value.int IntKind.u8 0).cells.size=1:=rfl;rw [Array.length_toList,size_zeroCells,hz1,Nat.mul_one]
        rw [List.length_append,hlen,hzl];omega
      · refine hm.swap (⟨rfl,rfl,rfl,by simp,fun k hk _=>by first | exact heap_alloc_old w.drew _ k hk | exact heap_alloc_old w.drew _ hk⟩) (fun b' c' r' h=>?_)
        cases h
        refine ⟨.inr (Nat.le_refl _),?_⟩
        have h2:=heap_alloc_new w.drew (.cells (xs.toArray++(byc s).toArray++Builtin.zeroCells (Value.int .u8 0).cells (grownCap w (k + s.length) cap e - (k + s.length))) e)
        have e3:(xs++byc s++(Builtin.zeroCells (Value.int .u8 0).cells (grownCap w (k + s.length) cap e - (k + s.length))).toList).toArray=xs.toArray++(byc s).toArray++Builtin.zeroCells (Value.int .u8 0).cells (grownCap w (k + s.length) cap e - (k + s.length)):=by
          apply Array.ext'
          simp [List.append_assoc]
        rw [e3];exact h2
theorem BC1 {s y:Operand} {T U e:TypeId} (A B:Blks) (x:Own) {k:Nat} {xs:List Value} (ys:List UInt8) (hT:apsB P T U=some e) (hn:news=A++(ownB e x xs++B))
    (hs:rev r s=some (ownV x k)) (hy:rev r y=some (.string (bs ys))) (hx:OwnOk 1 x k xs) (b1:k + ys.length≤140737488355328) (hd:Nat.ble (d + 1) n=true)
    (h:∀ z,OwnOk 1 z (k + ys.length) (xs++byc ys)→RunL P ops Q n rest ((d,ownV z (k + ys.length))::r) ds W chg (A++(ownB e z (xs++byc ys)++B))) :
    RunL P ops Q n ({ dst:=some d,op:=.call { callee:=.builtin .append,args:=#[s,y],argTypes:=#[T,U] },type:=ty,pos,after,guard:=none }::rest) r ds W chg news:=fun a w st =>
  wpList_plain rfl fun K hK=>by
    have hm:=st.mem;rw [hn] at hm;obtain ⟨z,w',hrun,ho,hm'⟩:=BK7 (P:=P) (tt:=ty) hT ys hm hx b1;unfold Oper.wp;simp [execOp,resolve,invoke,builtin,st.agree.eval hs,st.agree.eval hy,hrun,Result.andThen]
    refine hK _ _ (h z ho _ _ ?_)
    have st2:=st.put (Nat.le_of_ble_eq_true hd) (ownV z (k + ys.length));exact ⟨st2.size,st2.agree,st2.defers,hm'⟩
/-! ### Addresses -/
theorem Be0 {T t:TypeId} {w:World} (hT:P.underlying T=some (.pointer t)) (p:Option Addr):(Op.equal T (.pointer p) (.pointer none)).run P w = .ok p.isNone w:=by
  have h:∀ d:Nat,(Op.equalIn (d + 1) T (.pointer p) (.pointer none)).run P w = .ok p.isNone w:=fun d=>by
    cases p <;> simp [Op.equalIn,run_underlying hT]
  simp [Op.equal,Op.maxDepth,h 9999]
theorem Ak3 {x:Operand} {T yt t:TypeId} {p:Option Addr} (hx:rev r x=some (.pointer p)) (hT:P.underlying T=some (.pointer t)) :
    Val P r W chg news { dst,op:=.binOp .eql T x (.const (.pointer none)) yt,type:=ty,pos,after,guard:=gd } (.bool p.isNone) :=
  ⟨fun a w ha _=>by
    have h:=Be0 (P:=P) (w:=w) hT p;simp [execOp,ha.eval hx,BigFrame.eval_const,eqGuard,binOp,h]⟩
theorem BK9 {x y:Operand} {T yt t:TypeId} {j:TypeInfo} {a:Addr} (hx:rev r x=some (.pointer (some a))) (hy:rev r y=some (.pointer (some a))) (hT:P.underlying T=some (.pointer t)) (ht:P.info? t=some j) :
    Val P r W chg news { dst,op:=.binOp .neq T x y yt,type:=ty,pos,after,guard:=gd } (.bool false) :=
  ⟨fun ac w ha _=>by
    have h:=Lib.run_neq_ptr_same (P:=P) w a hT ht
    cases y with
    | const c=>simp [execOp,ha.eval hx,ha.eval hy,BigFrame.eval_const,eqGuard,h]
    | _=>simp [execOp,ha.eval hx,ha.eval hy,eqGuard,h]⟩
theorem BB2 {x:Operand} {S T t:TypeId} {j:TypeInfo} {b o:Nat} {cs:List Value} {T0:TypeId} {fr:Nat×Nat} (hx:rev r x=some (.pointer (some ⟨b,o,none⟩))) (hm:(b,.cells cs.toArray T0 fr)∈chg++news) (hS:P.underlying S=some (.pointer t)) (hT:P.underlying T=some .unsafePointer)
    (ht:P.info? t=some j) (hj:j.size ≠ 0) (ho:o < cs.length):Val P r W chg news { dst,op:=.convert S T x,type:=ty,pos,after,guard:=gd } (.pointer (some ⟨b,o,none⟩)) :=
  ⟨fun a w ha hm0=>by
    have h:=hm0.at hm;simp [execOp,ha.eval hx,Lib.run_to_unsafe (P:=P) w ⟨b,o,none⟩ hS hT ht hj (e:=T0) (cells:=cs.length) (by simp [World.shape?,h]) ho]⟩
theorem Be3 {x:Operand} {S T t:TypeId} {j:TypeInfo} {b o:Nat} {cs:List Value} {T0:TypeId} {fr:Nat×Nat} (hx:rev r x=some (.pointer (some ⟨b,o,none⟩))) (hm:(b,.cells cs.toArray T0 fr)∈chg++news) (hS:P.underlying S=some .unsafePointer) (hT:P.underlying T=some (.pointer t))
    (ht:P.info? t=some j) (hl:liesAt P P.depth T0 (cs.length / P.cellsOf T0) o t 1=true):Val P r W chg news { dst,op:=.convert S T x,type:=ty,pos,after,guard:=gd } (.pointer (some ⟨b,o,none⟩)) :=
  ⟨fun a w ha hm0=>by
    have h:=hm0.at hm;simp [execOp,ha.eval hx,Lib.run_from_unsafe (P:=P) w ⟨b,o,none⟩ hS hT ht (e:=T0) (cells:=cs.length) (by simp [World.shape?,h]) hl]⟩
theorem Am6 {x i y:Operand} {T E:TypeId} {b:Nat} {l:List (List UInt8×Value)} {a:List UInt8} {v:Value} {news':Blks} (hx:rev r x=some (.map (some b))) (hi:rev r i=some (.string (bs a))) (hy:rev r y=some v) (hu:Upd news b (mapS l) (mapS (l++[(a,v)])) news') (hT:mapSB P T=some E) (hk:sIdx l a=none) :
    Sto P r W chg news { dst,op:=.insert T x i y,type:=ty,pos,after,guard:=gd } chg news' :=
  ⟨fun ac w ha hm=>by
    have hb:=(hm.newd _ _ hu.mem).2;obtain ⟨s1,s2⟩:=Au8 (o':=mapS (l++[(a,v)])) hb;refine ⟨{ w with heap:=w.heap.setIfInBounds b (mapS (l++[(a,v)])) },by simp [execOp,ha.eval hx,ha.eval hi,ha.eval hy,AO9 hb hT hk],hm.upd_new hu rfl rfl rfl (by simp) (fun k _ hk=>s2 k hk) s1⟩⟩
theorem Av5 (z:Own) (k:Nat):cellsL (ownV z k)=[ownV z k]:=by cases z <;> rfl
theorem Ae3 (z:Own) (k:Nat):isOne (ownV z k)=true:=by cases z <;> rfl
theorem AF3 {v:Value} (hv:isOne v=true):∀ {cs:List Value} {o:Nat},o < cs.length→paste cs o [v]=some (cs.set o v)
  | [],_,h=>by simp at h
  | c::cs,0,_=>by simp only [paste,pasteN,hv,List.set_cons_zero]
  | c::cs,o + 1,h=>by simp [paste,AF3 hv (cs:=cs) (o:=o) (by simpa using h)]
theorem As7 {x y:Operand} {T T0:TypeId} {b o k:Nat} {g:Bool} {cs cs':List Value} {z:Own} {news':Blks} (hx:rev r x=some (.pointer (some ⟨b,o,none⟩))) (hy:rev r y=some (ownV z k))
    (hu:Upd news b (.cells cs.toArray T0 (0,0)) (.cells cs'.toArray T0 (0,0)) news') (hT:tyB P T=some (g,1)) (ho:Nat.blt o cs.length=true) (hp:cs.set o (ownV z k)=cs') :
    Sto P r W chg news { dst,op:=.store T x y,type:=ty,pos,after,guard:=gd } chg news' :=
  Sto.store hx hy hu hT (by rw [Av5];rfl) (by rw [Av5,← hp];exact AF3 (Ae3 z k) (by simpa using ho))
end
end Go.Eng
/- The engine: iterators' bodies; regions that draw and hand over. No program is in sight. -/
namespace Go.Eng
open Go Go.RowKit
section
variable {f:FuncId} {ro:Option Nat} {P:Program} {ops:Array Oper} {Q:Exit→Act→World→Prop} {n:Nat} {r:Regs} {ds:List Deferred} {W:World} {chg news:Blks} {d fuel:Nat} {listed:Array Bool}
theorem AS1 {fn:Func} {c:Code} {vs:List Value} {R:Ending→World→Prop} {w:World} (hm:Mem W chg news w) (hf:P.funcs[f]? = some fn) (hb:fn.body=some c) (hn:Nat.ble vs.length fn.ntmps=true)
    (h:RunCR none P (bodyPost P fn R) fn.ntmps c (args0 0 vs) [] W chg news) (m:Nat):CallsIn (Fr none) m P f vs.toArray w R:=by
  have s0:=Ay0 (Nat.le_of_ble_eq_true hn) (Mem.refl w) (vs:=vs);exact callsIn_of_wp hf hb trivial (AH0 (h _ _ ⟨s0.size,s0.agree,s0.defers,hm⟩)) rfl
theorem Bl6 {α X:Type} {l:Nat} {encs:α→List Value} {eb:α→Blks} {U:X→Blks} {tl:Blks} {I:List α→X→Prop} {Ix:X→Prop} {Ip:List PanicEntry→X→Prop} {W0 w:World} {pre:List α} {v:α} {N':X→Blks}
    (hp:∀ x,Pick (N' x) (U x++tl)) (h:YieldAt (Fr none) 8 P l (encs v).toArray w fun e w'=>∃ x',Mem W0 [] (U x'++tl) w'∧((e = .returned (.bool true)∧I (pre++[v]) x')∨(e = .returned (.bool false)∧Ix x')∨(∃ c,e = .panicked c∧Ip c x'))) :
    YieldAt (Fr none) 8 P l (encs v).toArray w fun e w'=>(∃ b:Bool×X,(b.1=true∧I (pre++[v]) b.2∨b.1=false∧Ix b.2)∧e = .returned (.bool b.1)∧Mem W0 [] (N' b.2) w')∨(∃ c:List PanicEntry×X,Ip c.1 c.2∧e = .panicked c.1∧Mem W0 [] (N' c.2) w'):=by
  obtain ⟨fn,tmps,as0,bd,h1,h2⟩:=h;refine ⟨fn,tmps,as0,bd,h1,h2.mono ?_⟩
  rintro e w' ⟨x',hm,⟨rfl,hi⟩ | ⟨rfl,hi⟩ | ⟨c,rfl,hi⟩⟩
  · exact .inl ⟨(true,x'),.inl ⟨rfl,hi⟩,rfl,hm.pick (hp _)⟩
  · exact .inl ⟨(false,x'),.inr ⟨rfl,hi⟩,rfl,hm.pick (hp _)⟩
  · exact .inr ⟨(c,x'),hi,rfl,hm.pick (hp _)⟩
/-! ### In whatever order, and handing over -/
def RunAF (ro:Option Nat) (P:Program) (ops:Array Oper) (Q:Exit→Act→World→Prop) (n fuel:Nat) (listed:Array Bool) (r:Regs) (ds:List Deferred) (W:World) (chg news:Blks):Prop :=
  ∀ a w,St n r ds W chg news a w→wpAnyIn (Fr ro) 9 P .any ops Q fuel listed a w
def RunIF (ro:Option Nat) (P:Program) (ops:Array Oper) (Q:Exit→Act→World→Prop) (n i:Nat) (K:Act→World→Prop) (r:Regs) (ds:List Deferred) (W:World) (chg news:Blks):Prop :=
  ∀ a w,St n r ds W chg news a w→wpOpIn (Fr ro) 9 P ops Q i K a w
theorem RunAF.all {rs:List Nat} (hr:Region.ready .any ops listed=rs) (hne:rs ≠ []) (h:∀ i∈rs,RunIF ro P ops Q n i (wpAnyIn (Fr ro) 9 P .any ops Q fuel (listed.setIfInBounds i true)) r ds W chg news):RunAF ro P ops Q n (fuel + 1) listed r ds W chg news:=fun a w s =>
  ⟨fun h0=>absurd (hr ▸ h0) hne,fun i hi=>h i (hr ▸ hi) a w s⟩
theorem RunAF.one {i:Nat} (hr:Region.ready .any ops listed=[i]) (h:RunIF ro P ops Q n i (wpAnyIn (Fr ro) 9 P .any ops Q fuel (listed.setIfInBounds i true)) r ds W chg news):RunAF ro P ops Q n (fuel + 1) listed r ds W chg news :=
  RunAF.all hr (by simp) (fun j hj=>(List.mem_singleton.1 hj) ▸ h)
theorem RunAF.done (hr:Region.ready .any ops listed=[]) (h:RunE Q n .normal r ds W chg news):RunAF ro P ops Q n fuel listed r ds W chg news:=fun a w s=>by
  cases fuel with
  | zero=>exact ⟨hr,h a w s⟩
  | succ m=>exact ⟨fun _=>h a w s,fun i hi=>by rw [hr] at hi;cases hi⟩
/-! ### Leaving -/
theorem Ar2 {fn:Func} {R:Ending→World→Prop} {tl:List Deferred} {t:Array Value} {news2:Blks} {u:FrameMode} (hu:u ≠ .run) (hend:∀ w,Mem W chg news2 w→LeavesInM Fence.wide 9 P fn t R tl u w):∀ (Ds:List Nat) (w:World),Mem W chg (Ds.map markB++news2) w→LeavesInM Fence.wide 9 P fn t R (Ds.map markD++tl) u w
  | [],w,hm=>hend w hm
  | D::Ds,w,hm=>⟨hu,.inl ⟨D,_,rfl,run_takeDeferred (hm.newd D _ (List.mem_cons_self ..)).2,Ar2 hu hend Ds _ (hm.putNew _)⟩⟩
theorem Ca6 {fn:Func} {R:Ending→World→Prop} {c:List PanicEntry} {news2:Blks} (Ds:List Nat) (hp:Pick (Ds.map markB++news2) news) (hR:∀ w,Mem W chg news2 w→R (.panicked c) w) :
    RunE (bodyPostM Fence.wide 9 P fn R) n (.panic c) r (Ds.map markD++[]) W chg news:=fun a w s=>by
  show LeavesInM _ _ _ _ _ _ a.defers _ w
  rw [s.defers];exact Ar2 (tl:=[]) (u:=.panicking c) (by simp) (fun w hm=>by simpa [LeavesInM,LeavesIn] using hR w hm) Ds w (s.mem.pick hp)
end
end Go.Eng
/- The engine: copy; numbers put together out of bytes. No program is in sight. -/
namespace Go.Eng
open Go Go.RowKit
section
variable {P:Program} {ops:Array Oper} {Q:Exit→Act→World→Prop} {n:Nat} {r:Regs} {ds:List Deferred} {W:World} {chg news:Blks} {rest:List Oper}
variable {d:Nat} {ty:TypeId} {pos:String} {after:Array Edge} {dst:Option Tmp} {gd:Option (Nat×Bool)}
theorem RunL.copy {x y:Operand} {T e T0:TypeId} {g l cap m c:Nat} {a:Addr} {cur cs:List Value} {news':Blks} (hx:rev r x=some (.slice (some ⟨g,0,none⟩) l cap)) (hy:rev r y=some (.slice (some a) m c)) (hT:slB P T=some (e,1)) (hlm:l≤m)
    (hu:Upd news g (.cells cur.toArray T0 (0,0)) (.cells cs.toArray T0 (0,0)) news') (hl:cs.length=l) (hcur:cur.length=l) (hsrc:∀ w,Mem W chg news w→∀ j v,cs[j]? = some v→w.cell? (a.add j)=some v) (h1:∀ v∈cs,v.oneCell'=true) (hd:Nat.ble (d + 1) n=true)
    (h:RunL P ops Q n rest ((d,.int .i64 (l:Int))::r) ds W chg news') :
    RunL P ops Q n ({ dst:=some d,op:=.call { callee:=.builtin .copy,args:=#[x,y],argTypes:=#[T,T] },type:=ty,pos,after,guard:=none }::rest) r ds W chg news:=fun ac w st =>
  wpList_plain rfl fun K hK=>by
    have hb:=(st.mem.newd _ _ hu.mem).2
    obtain ⟨hu2,j,hj,hj1⟩:P.underlying T=some (.slice e)∧∃ j,P.info? e=some j∧j.size=1:=by
      unfold slB at hT
      split at hT
      · rename_i e2 hu
        cases hj:P.info? e2 with
        | none=>simp [hj] at hT
        | some j =>
          simp [hj] at hT
          obtain ⟨rfl,hj1⟩:=hT;exact ⟨hu,j,hj,hj1⟩
      · cases hT
    have hrun:=run_copy_row (P:=P) w T T ty e g 0 l cap a m c cur.toArray T0 cs hu2 (by rw [hj];simp [hj1]) hb (by rw [hl];exact (Nat.min_eq_right hlm).symm) (hsrc w st.mem) (by simp [hl,hcur]) h1
    have e1:(cur.toArray.toList.take 0++cs++cur.toArray.toList.drop (0 + cs.length)).toArray=cs.toArray:=by
      simp [hl,hcur]
    rw [e1] at hrun;unfold Oper.wp;simp [execOp,resolve,invoke,builtin,st.agree.eval hx,st.agree.eval hy,hrun,Result.andThen]
    refine hK _ _ (h _ _ ?_)
    have e2:goInt cs.length = .int .i64 (l:Int):=by rw [hl];rfl
    rw [e2];have st2:=st.put (Nat.le_of_ble_eq_true hd) (.int .i64 (l:Int));exact ⟨st2.size,st2.agree,st2.defers,st.mem.upd_new hu rfl rfl rfl (by simp) (fun k _ hk=>setRow_other w g k _ hk) (setRow_heap w g cur.toArray cs.toArray T0 _ hb)⟩
end
end Go.Eng
/- The engine: max of many numbers. -/
namespace Go.Eng
open Go
variable {P:Program} {r:Regs} {W:World} {chg news:Blks}
end Go.Eng
/- The engine: a region that draws its order, all of whose operations (but a forced tail) hand back values or make blocks: whatever the order, the same is known behind it. No program is in sight. -/
namespace Go.Eng
open Go Go.RowKit
structure FRow (O:Type) where
  d:Nat
  deps:List Nat
  D:List Nat
  F:List O→Value
  G:List O→Blks
def upd {O:Type} (x:Nat→O) (i:Nat) (y:O):Nat→O:=fun m=>bif Nat.beq m i then y else x m
theorem Db3 {O:Type} {x:Nat→O} {i m:Nat} {y:O} (h:m ≠ i):upd x i y m=x m:=by
  unfold upd
  have:Nat.beq m i=false:=Bool.eq_false_iff.2 fun e=>h (Nat.eq_of_beq_eq_true e)
  rw [this];rfl
theorem Cc7 {O:Type} {x:Nat→O} {i:Nat} {y:O} {D:List Nat} (h:i ∉ D):D.map (upd x i y)=D.map x :=
  List.map_congr_left fun m hm=>Db3 (fun e=>h (e ▸ hm))
section
variable {O:Type}
def FRow.val (x:Nat→O) (r:FRow O):Value:=r.F (r.D.map x)
def FRow.blk (x:Nat→O) (r:FRow O):Blks:=r.G (r.D.map x)
def rowV (rows:List (FRow O)) (x:Nat→O) (j:Nat):Nat×Value:=match rows[j]? with
  | some r=>(r.d,r.val x)
  | none=>(0,undef)
def rowB (rows:List (FRow O)) (x:Nat→O) (j:Nat):Blks:=match rows[j]? with
  | some r=>r.blk x
  | none=>[]
def OpOk (P:Program) (ops:Array Oper) (n:Nat) (W:World) (chg:Blks) (r:Regs) (news:Blks) (i d:Nat) (v:O→Value) (nb:O→Blks):Prop :=
  (∃ o,ops[i]? = some o∧o.dst=some d)∧∀ (Q:Exit→Act→World→Prop) (K:Act→World→Prop) (a:Act) (w:World),a.tmps.size=n→Agree a r→Mem W chg news w→(∀ y w',Mem w [] (nb y) w'→K (a.put (some d) (v y)) w')→wpOp P ops Q i K a w
section
variable {P:Program} {ops:Array Oper} {n:Nat} {W:World} {chg:Blks} {r:Regs} {news:Blks} {i d:Nat}
theorem OpOk.val [Inhabited O] {o:Oper} {v:Value} (ho:ops[i]? = some o) (hv:Val P r W chg news o v) (hg:guardB ops r o.guard=some true) (hd:o.dst=some d):OpOk (O:=O) P ops n W chg r news i d (fun _=>v) (fun _=>[]) :=
  ⟨⟨o,ho,hd⟩,fun Q K a w hs ha hm hK=>by
    unfold wpOp;simp only [ho,Ad7 ha hg,if_true,Oper.wp,hv.run a w ha hm,Oper.upon_value,hd];exact .inl (hK default _ (Mem.refl _))⟩
theorem OpOk.new {o:Oper} {v:Nat→Value} {ob:Obj} (ho:ops[i]? = some o) (hv:New P r W chg news o v ob) (hg:guardB ops r o.guard=some true) (hd:o.dst=some d):OpOk (O:=Nat) P ops n W chg r news i d v (fun b=>[(b,ob)]) :=
  ⟨⟨o,ho,hd⟩,fun Q K a w hs ha hm hK=>by
    unfold wpOp;simp only [ho,Ad7 ha hg,if_true,Oper.wp,hv.run a w ha hm,Oper.upon_value,hd];exact .inl (hK _ _ ((Mem.refl w).alloc ob))⟩
end
def AllOk (P:Program) (ops:Array Oper) (n:Nat) (W:World) (chg:Blks) (r:Regs) (news:Blks) (rows:List (FRow O)):Nat→List (FRow O)→Prop
  | _,[]=>True
  | i,row::l=>(∀ x:Nat→O,OpOk P ops n W chg (row.deps.map (rowV rows x)++r) (row.deps.flatMap (rowB rows x)++news) i row.d (fun y=>row.F (row.D.map (upd x i y))) (fun y=>row.G (row.D.map (upd x i y))))∧AllOk P ops n W chg r news rows (i + 1) l
theorem AllOk.at {P:Program} {ops:Array Oper} {n:Nat} {W:World} {chg:Blks} {r:Regs} {news:Blks} {rows:List (FRow O)}:∀ {l:List (FRow O)} {i:Nat},AllOk P ops n W chg r news rows i l→∀ (j:Nat) (row:FRow O),l[j]? = some row→∀ x:Nat→O,OpOk P ops n W chg (row.deps.map (rowV rows x)++r) (row.deps.flatMap (rowB rows x)++news) (i + j) row.d (fun y=>row.F (row.D.map (upd x (i + j) y))) (fun y=>row.G (row.D.map (upd x (i + j) y)))
  | [],_,_,j,row,h=>by simp at h
  | r0::l,i,⟨h1,h2⟩,0,row,h=>by simp at h;subst h;exact h1
  | r0::l,i,⟨h1,h2⟩,j + 1,row,h=>by
    have:=AllOk.at h2 j row (by simpa using h)
    rw [show i + 1 + j=i + (j + 1) by omega] at this;exact this
/-! ### What is asked of the region's text -/
def edgeB (ops:Array Oper) (i m:Nat):Bool:=match ops[i]? with
  | some o=>o.after.toList.any fun e=>Region.binds .any e && Nat.beq e.on m
  | none=>false
def ascB:Nat→List Nat→Bool
  | _,[]=>true
  | lo,m::l=>Nat.ble lo m && ascB (m + 1) l
theorem BR6:∀ {l:List Nat} {lo hi:Nat},ascB lo l=true→(∀ m∈l,m < hi)→l.Sublist (List.range' lo (hi - lo))
  | [],_,_,_,_=>List.nil_sublist _
  | m::l,lo,hi,h,hm=>by
    simp only [ascB,Bool.and_eq_true] at h;have h1:lo≤m:=Nat.le_of_ble_eq_true h.1;have h2:=hm m (List.mem_cons_self ..);have ih:=BR6 h.2 (fun x hx=>hm x (List.mem_cons_of_mem _ hx))
    have e:List.range' lo (hi - lo)=List.range' lo (m - lo)++m::List.range' (m + 1) (hi - (m + 1)):=by
      have e1:hi - lo=(m - lo) + (hi - m):=by omega
      have e2:hi - m=(hi - (m + 1)) + 1:=by omega
      rw [e1,← List.range'_append (s:=lo) (m:=m - lo) (n:=hi - m) (step:=1),e2,List.range'_succ];simp only [Nat.one_mul];rw [show lo + (m - lo)=m by omega]
    rw [e];exact (ih.cons_cons m).trans (List.sublist_append_right _ _)
structure RowOk (ops:Array Oper) (n:Nat) (rows:List (FRow O)) (i:Nat) (row:FRow O):Prop where
  dn:row.d < n
  asc:ascB 0 row.deps=true
  lt:∀ m∈row.deps,m < i
  edge:∀ m∈row.deps,edgeB ops i m=true∨∃ j∈row.deps,edgeB ops i j=true∧∃ r,rows[j]? = some r∧m∈r.deps
  dD:∀ m∈row.D,m=i∨∃ j∈row.deps,∃ r,rows[j]? = some r∧m∈r.D
/-! ### The proof -/
def allB (rows:List (FRow O)) (listed:Array Bool) (x:Nat→O):Blks:=(List.range rows.length).flatMap fun j=>if listed.getD j false=true then rowB rows x j else []
structure FInv (ops:Array Oper) (rows:List (FRow O)) (n:Nat) (ds:List Deferred) (W:World) (chg:Blks) (r:Regs) (news:Blks) (listed:Array Bool) (x:Nat→O) (a:Act) (w:World):Prop where
  size:a.tmps.size=n
  defers:a.defers=ds
  agree:Agree a r
  done:∀ (j:Nat) (row:FRow O),rows[j]? = some row→listed.getD j false=true→a.tmps[row.d]? = some (row.val x)
  mem:Mem W chg (allB rows listed x++news) w
  tail:∀ j,rows.length≤j→listed.getD j false=false
  lsize:listed.size=ops.size
  closed:Closed ops listed
theorem CS9 {listed:Array Bool} {j:Nat} (h:j < listed.size):listed.getD j true=listed.getD j false:=by simp [h]
theorem CC7 {q r:Regs} {t:Nat} {v:Value} (h:rget (q++r) t=some v):rget q t=some v∨rget r t=some v:=by
  induction q with
  | nil=>exact .inr h
  | cons e q ih =>
    obtain ⟨k,u⟩:=e;simp only [List.cons_append,rget] at h ⊢
    split at h
    · exact .inl h
    · exact ih h
theorem BO0:∀ {q:Regs} {t:Nat} {v:Value},rget q t=some v→(t,v)∈q
  | (k,u)::q,t,v,h=>by
    simp only [rget] at h
    split at h
    · rename_i hb
      have:=Nat.eq_of_beq_eq_true hb
      subst this
      cases h
      exact List.mem_cons_self ..
    · exact List.mem_cons_of_mem _ (BO0 h)
theorem By3 {g g':Nat→Blks} {i:Nat}:∀ {l:List Nat},l.Nodup→i∈l→(∀ j∈l,j ≠ i→g' j=g j)→g i=[]→(l.flatMap g').Perm (g' i++l.flatMap g)
  | j::l,hn,hi,he,h0=>by
    rw [List.nodup_cons] at hn;rw [List.flatMap_cons,List.flatMap_cons]
    by_cases hj:j=i
    · subst hj
      have e:l.flatMap g'=l.flatMap g:=by
        have:l.map g'=l.map g:=List.map_congr_left fun m hm=>he m (List.mem_cons_of_mem _ hm) (fun e=>hn.1 (e ▸ hm))
        rw [List.flatMap_def,List.flatMap_def,this]
      rw [e,h0,List.nil_append]
    · have hi2:i∈l:=by
        rcases List.mem_cons.1 hi with e | h
        · exact absurd e.symm hj
        · exact h
      have ih:=By3 hn.2 hi2 (fun m hm=>he m (List.mem_cons_of_mem _ hm)) h0;rw [he j (List.mem_cons_self ..) hj];exact (ih.append_left (g j)).trans (List.perm_append_comm_assoc _ _ _)
theorem CI0 {g:Nat→Blks} {l m:List Nat} (h:l.Sublist m):(l.flatMap g).Sublist (m.flatMap g):=by
  induction h with
  | slnil=>exact List.Sublist.refl _
  | cons a _ ih=>rw [List.flatMap_cons];exact ih.trans (List.sublist_append_right _ _)
  | cons_cons a _ ih=>rw [List.flatMap_cons,List.flatMap_cons];exact ih.append_left _
section
variable {P:Program} {ops:Array Oper} {n:Nat} {W:World} {chg:Blks} {r:Regs} {news:Blks} {ds:List Deferred} {rows:List (FRow O)} {listed:Array Bool} {x:Nat→O} {a:Act} {w:World}
theorem AN4 {i m:Nat} {o:Oper} (h:edgeB ops i m=true) (ho:ops[i]? = some o):∃ e∈o.after,Region.binds .any e=true∧e.on=m:=by
  unfold edgeB at h;rw [ho] at h;obtain ⟨e,he,h2⟩:=List.any_eq_true.1 h;simp only [Bool.and_eq_true] at h2;exact ⟨e,Array.mem_def.2 he,h2.1,by simpa using h2.2⟩
theorem Bz3 (hrow:∀ (j:Nat) (row:FRow O),rows[j]? = some row→RowOk ops n rows j row) (hlen:rows.length≤ops.size) (hc:Closed ops listed):∀ (j:Nat) (row:FRow O),rows[j]? = some row→listed.getD j false=true→∀ m∈row.deps,listed.getD m false=true:=by
  intro j
  induction j using Nat.strongRecOn with
  | _ j ih =>
    intro row hj hl m hm;have hR:=hrow j row hj;have hjl:=(List.getElem?_eq_some_iff.1 hj).1;obtain ⟨o,ho⟩:∃ o,ops[j]? = some o:=⟨_,Array.getElem?_eq_getElem (by omega)⟩
    rcases hR.edge m hm with h1 | ⟨j',hj',h1,r',hr',hm'⟩
    · obtain ⟨e,he,hb,rfl⟩:=AN4 h1 ho
      exact hc j o ho hl e he hb
    · obtain ⟨e,he,hb,rfl⟩:=AN4 h1 ho
      exact ih e.on (hR.lt _ hj') r' hr' (hc j o ho hl e he hb) m hm'
theorem Dk1 (hrow:∀ (j:Nat) (row:FRow O),rows[j]? = some row→RowOk ops n rows j row) (hlen:rows.length≤ops.size) (hc:Closed ops listed):∀ (j:Nat) (row:FRow O),rows[j]? = some row→listed.getD j false=true→∀ m∈row.D,listed.getD m false=true:=by
  intro j
  induction j using Nat.strongRecOn with
  | _ j ih =>
    intro row hj hl m hm;have hR:=hrow j row hj
    rcases hR.dD m hm with rfl | ⟨j',hj',r',hr',hm'⟩
    · exact hl
    · exact ih j' (hR.lt _ hj') r' hr' (Bz3 hrow hlen hc j row hj hl j' hj') m hm'
theorem FInv.step (hrow:∀ (j:Nat) (row:FRow O),rows[j]? = some row→RowOk ops n rows j row) (hdd:∀ (j j2:Nat) (r r2:FRow O),rows[j]? = some r→rows[j2]? = some r2→j ≠ j2→r.d ≠ r2.d) (hlen:rows.length≤ops.size)
    (hr:∀ t v,rget r t=some v→∀ row∈rows,row.d ≠ t) (hok:AllOk P ops n W chg r news rows 0 rows) (h:FInv ops rows n ds W chg r news listed x a w) {i:Nat} (hi:i < rows.length) (hrd:i∈Region.ready .any ops listed) {Q:Exit→Act→World→Prop} {K:Act→World→Prop}
    (hK:∀ x' a' w',FInv ops rows n ds W chg r news (listed.setIfInBounds i true) x' a' w'→K a' w'):wpOp P ops Q i K a w:=by
  obtain ⟨row,hri⟩:∃ row,rows[i]? = some row:=⟨_,List.getElem?_eq_getElem hi⟩;have hR:=hrow i row hri;obtain ⟨hun,o,ho,AT4⟩:=mem_ready.1 hrd;have hsz:i < listed.size:=by rw [h.lsize];omega
  have hun':listed.getD i false=false:=by rw [← CS9 hsz];exact hun
  have hdep:∀ m∈row.deps,listed.getD m false=true:=fun m hm=>by
    rcases hR.edge m hm with h1 | ⟨j',hj',h1,r',hr',hm'⟩
    · obtain ⟨e,he,hb,rfl⟩:=AN4 h1 ho
      exact AT4 e he hb
    · obtain ⟨e,he,hb,rfl⟩:=AN4 h1 ho
      exact Bz3 hrow hlen h.closed e.on r' hr' (AT4 e he hb) m hm'
  have hOk:=hok.at i row hri x;rw [Nat.zero_add] at hOk;obtain ⟨⟨o',ho',hod⟩,hrun⟩:=hOk
  have hag:Agree a (row.deps.map (rowV rows x)++r):=fun t v ht=>by
    rcases CC7 ht with h1 | h1
    · obtain ⟨j,hj,he⟩:=List.mem_map.1 (BO0 h1)
      obtain ⟨rj,hrj⟩:∃ rj,rows[j]? = some rj:=⟨_,List.getElem?_eq_getElem (by have:=hR.lt j hj;omega)⟩;have e1:rowV rows x j=(rj.d,rj.val x):=by unfold rowV;rw [hrj]
      rw [e1] at he
      cases he
      exact h.done j rj hrj (hdep j hj)
    · exact h.agree t v h1
  have hsub:(row.deps.flatMap (rowB rows x)).Sublist (allB rows listed x):=by
    have h1:=BR6 (hi:=rows.length) hR.asc (fun m hm=>by have:=hR.lt m hm;omega);have h2:row.deps.Sublist (List.range rows.length):=by rw [List.range_eq_range'];simpa using h1
    have e:row.deps.flatMap (rowB rows x)=row.deps.flatMap fun j=>if listed.getD j false=true then rowB rows x j else []:=by
      have:row.deps.map (rowB rows x)=row.deps.map fun j=>if listed.getD j false=true then rowB rows x j else []:=List.map_congr_left fun m hm=>by rw [if_pos (hdep m hm)]
      rw [List.flatMap_def,List.flatMap_def,this]
    rw [e];exact CI0 h2
  have hmem:Mem W chg (row.deps.flatMap (rowB rows x)++news) w:=h.mem.fewer (hsub.append_right news);refine hrun Q K a w h.size hag hmem fun y w' hw'=>?_
  have hnotD:∀ (j:Nat) (rj:FRow O),rows[j]? = some rj→listed.getD j false=true→i ∉ rj.D:=fun j rj hj hl hm=>by
    have:=Dk1 hrow hlen h.closed j rj hj hl i hm
    rw [hun'] at this
    cases this
  have hclosed:=h.closed.step hrd;have hdn:row.d < a.tmps.size:=by rw [h.size];exact hR.dn
  refine hK (upd x i y) _ _ ⟨by simp [Act.put,h.size],h.defers,fun t v ht=>?_,fun j rj hj hl=>?_,?_,fun j hj=>?_,by simp [h.lsize],hclosed⟩
  · have hne:=hr t v ht row (List.mem_of_getElem? hri)
    have:=h.agree t v ht
    simp [Act.put,Array.getElem?_setIfInBounds_ne hne,this]
  · by_cases hji:j=i
    · subst hji
      rw [hri] at hj
      cases hj
      simp [Act.put,hdn,FRow.val]
    · rw [getD_set_ne false (Ne.symm hji)] at hl
      have hd2:=hdd i j row rj hri hj (Ne.symm hji);have h1:=h.done j rj hj hl;simp only [Act.put];rw [Array.getElem?_setIfInBounds_ne hd2,h1];unfold FRow.val;rw [Cc7 (hnotD j rj hj hl)]
  · have h1:=h.mem.trans hw'
    refine h1.perm ?_;rw [← List.append_assoc];refine List.Perm.append_right news (List.Perm.symm ?_)
    have e1:row.G (row.D.map (upd x i y))=(fun j=>if (listed.setIfInBounds i true).getD j false=true then rowB rows (upd x i y) j else []) i:=by
      have e2:(listed.setIfInBounds i true).getD i false=true:=by simp [hsz]
      show _=if (listed.setIfInBounds i true).getD i false=true then rowB rows (upd x i y) i else []
      rw [if_pos e2];unfold rowB;rw [hri];rfl
    show (allB rows (listed.setIfInBounds i true) (upd x i y)).Perm (row.G (row.D.map (upd x i y))++allB rows listed x)
    rw [e1];unfold allB;refine By3 List.nodup_range (List.mem_range.2 hi) (fun j hj hne=>?_) (by show (if listed.getD i false=true then rowB rows x i else [])=[];rw [hun'];rfl)
    rw [getD_set_ne false (Ne.symm hne)]
    cases hl:listed.getD j false with
    | false=>rfl
    | true =>
      rw [if_pos rfl,if_pos rfl];unfold rowB
      cases hj2:rows[j]? with
      | none=>rfl
      | some rj =>
        show rj.G (rj.D.map (upd x i y))=rj.G (rj.D.map x)
        rw [Cc7 (hnotD j rj hj2 hl)]
  · rw [getD_set_ne false (by omega)]
    exact h.tail j hj
theorem AllOk.nil {P:Program} {ops:Array Oper} {n:Nat} {W:World} {chg:Blks} {r:Regs} {news:Blks} {rows:List (FRow O)} {i:Nat}:AllOk P ops n W chg r news rows i []:=trivial
theorem AllOk.cons {P:Program} {ops:Array Oper} {n:Nat} {W:World} {chg:Blks} {r:Regs} {news:Blks} {rows:List (FRow O)} {i:Nat} {row:FRow O} {l:List (FRow O)} (h:∀ x:Nat→O,OpOk P ops n W chg (row.deps.map (rowV rows x)++r) (row.deps.flatMap (rowB rows x)++news) i row.d (fun y=>row.F (row.D.map (upd x i y))) (fun y=>row.G (row.D.map (upd x i y))))
    (hl:AllOk P ops n W chg r news rows (i + 1) l):AllOk P ops n W chg r news rows i (row::l):=⟨h,hl⟩
end
end
end Go.Eng
/- Straight lines in one step. -/
namespace Go.Eng
open Go
theorem st {p q:Prop} (k:q) (h:q→p:=by intro k;(repeat first | refine Go.Eng.vp rfl rfl rfl rfl ?_ | refine Go.Eng.RunL.nil ?_ | refine Go.Eng.RunE.next ?_ | refine Go.Eng.RunC.seq ?_ | refine Go.Eng.RunC.region ?_ | refine Go.Eng.RunC.skip ?_ | refine Go.Eng.RunC.block ?_ | refine Go.Eng.RunE.block_normal ?_);exact k):p:=h k
theorem sv {p q:Prop} (k:q) (h:q→p:=by intro k;(repeat refine Go.Eng.vp rfl rfl rfl rfl ?_);exact k):p:=h k
section
variable {P:Program} {ops:Array Oper} {Q:Exit→Act→World→Prop} {n:Nat} {r:Regs} {ds:List Deferred} {W:World} {chg news:Blks} {rest:List Oper} {d:Nat}
theorem lv {o:Oper} {v:Value} {q:Prop} (hv:Val P r W chg news o v) (k:q) (hg:guardB ops r o.guard=some true:=by rfl) (hd:o.dst=some d:=by rfl) (hn:Nat.ble (d + 1) n=true:=by rfl)
    (h:q→RunL P ops Q n rest ((d,v)::r) ds W chg news:=by intro k;(repeat first | refine Go.Eng.vp rfl rfl rfl rfl ?_ | refine Go.Eng.RunL.nil ?_ | refine Go.Eng.RunE.next ?_ | refine Go.Eng.RunC.seq ?_ | refine Go.Eng.RunC.region ?_ | refine Go.Eng.RunC.skip ?_ | refine Go.Eng.RunC.block ?_ | refine Go.Eng.RunE.block_normal ?_);exact k) :
    RunL P ops Q n (o::rest) r ds W chg news:=Ac7 hv hg hd hn (h k)
theorem cn {c:Operand} {x y:Code} {t:Bool} {A B:Prop} (hc:rev r c=some (.bool t)) (ht:A→RunC P Q n x r ds W chg news) (hf:B→RunC P Q n y r ds W chg news)
    (ha:t=true→A:=by intro h;(try simp only [Go.Eng.nH] at h);exact h) (hb:t=false→B:=by intro h;(try simp only [Go.Eng.nH] at h);exact h):RunC P Q n (.cond c x y) r ds W chg news:=RunC.cond hc (fun h=>ht (ha h)) fun h=>hf (hb h)
end
end Go.Eng
namespace Go.Eng
open Go
class Fld (P:Program) (T:TypeId) (i:Nat) (off:outParam Nat):Prop where
  h:fieldB P T i=some off
class Tyc (P:Program) (T:TypeId) (agg:outParam Bool) (sz:outParam Nat):Prop where
  h:tyB P T=some (agg,sz)
class Slc (P:Program) (T:TypeId) (e:outParam TypeId) (sz:outParam Nat):Prop where
  h:slB P T=some (e,sz)
theorem zF {P:Program} {r:Regs} {ty:TypeId} {pos:String} {after:Array Edge} {f:FuncId} {xs:List Operand} {vs:List Value} {ats:Array TypeId} {dst:Option Tmp} {gd:Option (Nat×Bool)} (hx:revs r xs=some vs) (he:Enters P f) :
    IsCall P r { dst,op:=.call { callee:=.value (.func f),args:=xs.toArray,argTypes:=ats },type:=ty,pos,after,guard:=gd } f vs.toArray:=Aq2 hx he
theorem zS {q r:Regs} (t:Nat) {v:Value} (h:rget r t=some v) (hs:Sub q r):Sub ((t,v)::q) r:=Sub.cons h hs
theorem zE {q r:Regs} (t:Nat) {u v:Value} (h:rget r t=some u) (he:u=v) (hs:Sub q r):Sub ((t,v)::q) r:=Cv7 h he hs
theorem zs {α:Type} {a b:α} {G:Prop} (g:a=b) (h:a=b→G:=by intro g;refine Go.Eng.Af8 (Go.Eng.Sub.cons rfl ?_) (List.Sublist.refl _);repeat first | exact Go.Eng.Ac1 _ | refine Go.Eng.Ah3 rfl (by rw [g]) ?_ | refine Go.Eng.Sub.skip rfl ?_):G:=h g
section
variable {P:Program} {ops:Array Oper} {Q:Exit→Act→World→Prop} {n:Nat} {r:Regs} {ds:List Deferred} {W:World} {chg news:Blks} {rest:List Oper} {d:Nat}
theorem zv {k fuel:Nat} {listed:Array Bool} {chg0 news0:Blks} (i:Nat) {o:Oper} {v:Value} (ho:ops[i]? = some o) (hv:Val P r W chg0 news0 o v)
    (h:RunA P ops Q k (fun c=>c=chg0) news0 n fuel (listed.setIfInBounds i true) ((d,v)::r) ds W chg news) (hg:guardB ops r o.guard=some true:=by rfl) (hd:o.dst=some d:=by rfl) (hn:Nat.ble (d + 1) n=true:=by rfl)
    (hs:Pick news0 news:=by repeat first | exact Go.Eng.Pick.nil | refine Go.Eng.Pick.cons (Go.Eng.Take.here) rfl ?_ | refine Go.Eng.Pick.cons (.there .here) rfl ?_ | refine Go.Eng.Pick.cons (.there (.there .here)) rfl ?_ | refine Go.Eng.Pick.cons (.there (.there (.there .here))) rfl ?_ | refine Go.Eng.Pick.cons (.there (.there (.there (.there .here)))) rfl ?_ | refine Go.Eng.Pick.cons (.there (.there (.there (.there (.there .here))))) rfl ?_ | refine Go.Eng.Pick.cons (.there (.there (.there (.there (.there (.there .here)))))) rfl ?_)
    (hc:chg=chg0:=by rfl) (hQ:∀ c a w,Q (.panic c) (a.put o.dst v) w→Q (.panic c) a w:=by exact fun _ _ _ h=>h) (hf:freeB ops k i=true:=by kernel_rfl) (hr:readyB ops listed i=true:=by kernel_rfl) :
    RunA P ops Q k (fun c=>c=chg0) news0 n (fuel + 1) listed r ds W chg news:=va i ho hv hg hd hn hs hc h hQ hf hr
theorem zw {k fuel:Nat} {listed:Array Bool} {chg0 news0:Blks} (i:Nat) {o:Oper} {v:Value} (h:RunA P ops Q k (fun c=>c=chg0) news0 n fuel (listed.setIfInBounds i true) ((d,v)::r) ds W chg news) (ho:ops[i]? = some o:=by rfl) (hv:Val P r W chg0 news0 o v:=by first | exact Go.Eng.Aa3 rfl | exact Go.Eng.Val.fieldAddr rfl Go.Eng.Fld.h | exact Go.Eng.Al1 rfl Go.Eng.Slc.h | exact Go.Eng.Ab6 rfl (.head _) Go.Eng.Tyc.h rfl | exact Go.Eng.Ah2 rfl (.head _) Go.Eng.Tyc.h rfl | exact Go.Eng.Ab6 rfl (.tail _ (.head _)) Go.Eng.Tyc.h rfl | exact Go.Eng.Ah2 rfl (.tail _ (.head _)) Go.Eng.Tyc.h rfl | exact Go.Eng.Ab6 rfl (.tail _ (.tail _ (.head _))) Go.Eng.Tyc.h rfl | exact Go.Eng.Ah2 rfl (.tail _ (.tail _ (.head _))) Go.Eng.Tyc.h rfl | exact Go.Eng.Ab6 rfl (.tail _ (.tail _ (.tail _ (.head _)))) Go.Eng.Tyc.h rfl | exact Go.Eng.Ah2 rfl (.tail _ (.tail _ (.tail _ (.head _)))) Go.Eng.Tyc.h rfl | exact Go.Eng.Ab6 rfl (.tail _ (.tail _ (.tail _ (.tail _ (.head _))))) Go.Eng.Tyc.h rfl | exact Go.Eng.Ah2 rfl (.tail _ (.tail _ (.tail _ (.tail _ (.head _))))) Go.Eng.Tyc.h rfl | exact Go.Eng.Ab6 rfl (.tail _ (.tail _ (.tail _ (.tail _ (.tail _ (.head _)))))) Go.Eng.Tyc.h rfl | exact Go.Eng.Ah2 rfl (.tail _ (.tail _ (.tail _ (.tail _ (.tail _ (.head _)))))) Go.Eng.Tyc.h rfl) (hg:guardB ops r o.guard=some true:=by rfl) (hd:o.dst=some d:=by rfl) (hn:Nat.ble (d + 1) n=true:=by rfl)
    (hs:Pick news0 news:=by repeat first | exact Go.Eng.Pick.nil | refine Go.Eng.Pick.cons (Go.Eng.Take.here) rfl ?_ | refine Go.Eng.Pick.cons (.there .here) rfl ?_ | refine Go.Eng.Pick.cons (.there (.there .here)) rfl ?_ | refine Go.Eng.Pick.cons (.there (.there (.there .here))) rfl ?_ | refine Go.Eng.Pick.cons (.there (.there (.there (.there .here)))) rfl ?_ | refine Go.Eng.Pick.cons (.there (.there (.there (.there (.there .here))))) rfl ?_ | refine Go.Eng.Pick.cons (.there (.there (.there (.there (.there (.there .here)))))) rfl ?_)
    (hc:chg=chg0:=by rfl) (hQ:∀ c a w,Q (.panic c) (a.put o.dst v) w→Q (.panic c) a w:=by exact fun _ _ _ h=>h) (hf:freeB ops k i=true:=by kernel_rfl) (hr:readyB ops listed i=true:=by kernel_rfl) :
    RunA P ops Q k (fun c=>c=chg0) news0 n (fuel + 1) listed r ds W chg news:=va i ho hv hg hd hn hs hc h hQ hf hr
theorem zp {fuel:Nat} {listed:Array Bool} (i:Nat) {o:Oper} {v:Value} (h:RunB P ops Q n fuel (listed.setIfInBounds i true) ((d,v)::r) ds W chg news) (ho:ops[i]? = some o:=by rfl) (hv:Val P r W chg news o v:=by first | exact Go.Eng.Aa3 rfl | exact Go.Eng.Val.fieldAddr rfl Go.Eng.Fld.h | exact Go.Eng.Al1 rfl Go.Eng.Slc.h | exact Go.Eng.Ab6 rfl (.head _) Go.Eng.Tyc.h rfl | exact Go.Eng.Ah2 rfl (.head _) Go.Eng.Tyc.h rfl | exact Go.Eng.Ab6 rfl (.tail _ (.head _)) Go.Eng.Tyc.h rfl | exact Go.Eng.Ah2 rfl (.tail _ (.head _)) Go.Eng.Tyc.h rfl | exact Go.Eng.Ab6 rfl (.tail _ (.tail _ (.head _))) Go.Eng.Tyc.h rfl | exact Go.Eng.Ah2 rfl (.tail _ (.tail _ (.head _))) Go.Eng.Tyc.h rfl | exact Go.Eng.Ab6 rfl (.tail _ (.tail _ (.tail _ (.head _)))) Go.Eng.Tyc.h rfl | exact Go.Eng.Ah2 rfl (.tail _ (.tail _ (.tail _ (.head _)))) Go.Eng.Tyc.h rfl | exact Go.Eng.Ab6 rfl (.tail _ (.tail _ (.tail _ (.tail _ (.head _))))) Go.Eng.Tyc.h rfl | exact Go.Eng.Ah2 rfl (.tail _ (.tail _ (.tail _ (.tail _ (.head _))))) Go.Eng.Tyc.h rfl | exact Go.Eng.Ab6 rfl (.tail _ (.tail _ (.tail _ (.tail _ (.tail _ (.head _)))))) Go.Eng.Tyc.h rfl | exact Go.Eng.Ah2 rfl (.tail _ (.tail _ (.tail _ (.tail _ (.tail _ (.head _)))))) Go.Eng.Tyc.h rfl) (hg:guardB ops r o.guard=some true:=by rfl) (hd:o.dst=some d:=by rfl) (hn:Nat.ble (d + 1) n=true:=by rfl) (hr:Region.ready .any ops listed=[i]:=by kernel_rfl) :
    RunB P ops Q n (fuel + 1) listed r ds W chg news:=RunB.one hr (Ai8 ho hv hg hd hn (Ab9 h))
theorem zN {k fuel:Nat} {listed:Array Bool} {cp:Blks→Prop} {news0:Blks} (i:Nat) {o:Oper} (h:RunA P ops Q k cp news0 n fuel (listed.setIfInBounds i true) ((d,undef)::r) ds W chg news) (ho:ops[i]? = some o:=by rfl) (hf:freeB ops k i=true:=by kernel_rfl) (hr:readyB ops listed i=true:=by kernel_rfl)
    (hg:guardB ops r o.guard=some false:=by rfl) (hd:o.dst=some d:=by rfl) (hn:Nat.ble (d + 1) n=true:=by rfl) (hQ:∀ c a w,Q (.panic c) (a.put o.dst undef) w→Q (.panic c) a w:=by exact fun _ _ _ h=>h)
    (hs:Pick news0 news:=by repeat first | exact Go.Eng.Pick.nil | refine Go.Eng.Pick.cons (Go.Eng.Take.here) rfl ?_ | refine Go.Eng.Pick.cons (.there .here) rfl ?_ | refine Go.Eng.Pick.cons (.there (.there .here)) rfl ?_ | refine Go.Eng.Pick.cons (.there (.there (.there .here))) rfl ?_ | refine Go.Eng.Pick.cons (.there (.there (.there (.there .here)))) rfl ?_ | refine Go.Eng.Pick.cons (.there (.there (.there (.there (.there .here))))) rfl ?_)
    (hc:cp chg:=by rfl):RunA P ops Q k cp news0 n (fuel + 1) listed r ds W chg news:=An3 ho hf hr hg hd hn hQ hs hc h
theorem zA {k fuel:Nat} {listed:Array Bool} {cp:Blks→Prop} {news0:Blks} (i:Nat) (h:RunI P ops Q n i (NextA P ops Q k W cp news0 fuel (listed.setIfInBounds i true)) r ds W chg news) (hr:Region.ready .any ops listed=[i]:=by kernel_rfl) (hd:doneB k listed=false:=by kernel_rfl) :
    RunA P ops Q k cp news0 n (fuel + 1) listed r ds W chg news:=RunA.one hr hd h
theorem zt {k fuel:Nat} {listed:Array Bool} {cp:Blks→Prop} {news0:Blks} (h:RunB P ops Q n (fuel + 1) listed r ds W chg news) (hd:doneB k listed=true:=by kernel_rfl):RunA P ops Q k cp news0 n (fuel + 1) listed r ds W chg news:=CK6 hd h
theorem zB {fuel:Nat} {listed:Array Bool} (i:Nat) (h:RunI P ops Q n i (wpAny P .any ops Q fuel (listed.setIfInBounds i true)) r ds W chg news) (hr:Region.ready .any ops listed=[i]:=by kernel_rfl):RunB P ops Q n (fuel + 1) listed r ds W chg news:=RunB.one hr h
theorem zd {fuel:Nat} {listed:Array Bool} (h:RunE Q n .normal r ds W chg news) (hr:Region.ready .any ops listed=[]:=by kernel_rfl):RunB P ops Q n fuel listed r ds W chg news:=RunB.done hr h
theorem zo {fuel:Nat} {listed:Array Bool} (i:Nat) {o:Oper} {v:Value} (ho:ops[i]? = some o) (hv:Val P r W chg news o v) (h:RunB P ops Q n fuel (listed.setIfInBounds i true) ((d,v)::r) ds W chg news) (hg:guardB ops r o.guard=some true:=by rfl) (hd:o.dst=some d:=by rfl) (hn:Nat.ble (d + 1) n=true:=by rfl) (hr:Region.ready .any ops listed=[i]:=by kernel_rfl) :
    RunB P ops Q n (fuel + 1) listed r ds W chg news:=RunB.one hr (Ai8 ho hv hg hd hn (Ab9 h))
theorem zq {fuel:Nat} {listed:Array Bool} (i:Nat) {o:Oper} {f:FuncId} {args:Array Value} {v:Value} (ho:ops[i]? = some o) (hi:IsCall P r o f args) (hc:∀ w,Mem W chg news w→Calls P f args w (Pure v w)) (h:RunB P ops Q n fuel (listed.setIfInBounds i true) ((d,v)::r) ds W chg news) (hg:guardB ops r o.guard=some true:=by rfl) (hd:o.dst=some d:=by rfl) (hn:Nat.ble (d + 1) n=true:=by rfl) (hr:Region.ready .any ops listed=[i]:=by kernel_rfl) :
    RunB P ops Q n (fuel + 1) listed r ds W chg news:=RunB.one hr (Ab5 ho hi hg hd hn hc (Ab9 h))
theorem zc {o:Oper} {f:FuncId} {args:Array Value} {v:Value} {q:Prop} (hi:IsCall P r o f args) (hc:∀ w,Mem W chg news w→Calls P f args w (Pure v w)) (k:q) (hg:guardB ops r o.guard=some true:=by rfl) (hd:o.dst=some d:=by rfl) (hn:Nat.ble (d + 1) n=true:=by rfl)
    (h:q→RunL P ops Q n rest ((d,v)::r) ds W chg news:=by intro k;(repeat first | refine Go.Eng.vp rfl rfl rfl rfl ?_ | with_reducible refine Go.Eng.RunL.nil ?_ | with_reducible refine Go.Eng.RunE.next ?_ | with_reducible refine Go.Eng.RunC.seq ?_ | with_reducible refine Go.Eng.RunC.region ?_ | with_reducible refine Go.Eng.RunC.skip ?_ | with_reducible refine Go.Eng.RunC.block ?_ | with_reducible refine Go.Eng.RunE.block_normal ?_ | with_reducible refine Go.Eng.RunC.ret ?_ | with_reducible refine Go.Eng.Ad3 ?_ | with_reducible refine Go.Eng.Ad2 ?_ | with_reducible refine Go.Eng.Al2 ?_ | refine Go.Eng.Ab8 rfl rfl rfl ?_ | refine Go.Eng.Ac7 (Go.Eng.Val.fieldAddr rfl Go.Eng.Fld.h) rfl rfl rfl ?_ | refine Go.Eng.Ac7 (Go.Eng.Al1 rfl Go.Eng.Slc.h) rfl rfl rfl ?_ | refine Go.Eng.Ac7 (Go.Eng.Ab6 rfl (.head _) Go.Eng.Tyc.h rfl) rfl rfl rfl ?_ | refine Go.Eng.Ac7 (Go.Eng.Ah2 rfl (.head _) Go.Eng.Tyc.h rfl) rfl rfl rfl ?_ | refine Go.Eng.Ac7 (Go.Eng.Ab6 rfl (.tail _ (.head _)) Go.Eng.Tyc.h rfl) rfl rfl rfl ?_ | refine Go.Eng.Ac7 (Go.Eng.Ah2 rfl (.tail _ (.head _)) Go.Eng.Tyc.h rfl) rfl rfl rfl ?_ | refine Go.Eng.Ac7 (Go.Eng.Ab6 rfl (.tail _ (.tail _ (.head _))) Go.Eng.Tyc.h rfl) rfl rfl rfl ?_ | refine Go.Eng.Ac7 (Go.Eng.Ah2 rfl (.tail _ (.tail _ (.head _))) Go.Eng.Tyc.h rfl) rfl rfl rfl ?_ | refine Go.Eng.Ac7 (Go.Eng.Ab6 rfl (.tail _ (.tail _ (.tail _ (.head _)))) Go.Eng.Tyc.h rfl) rfl rfl rfl ?_ | refine Go.Eng.Ac7 (Go.Eng.Ah2 rfl (.tail _ (.tail _ (.tail _ (.head _)))) Go.Eng.Tyc.h rfl) rfl rfl rfl ?_ | refine Go.Eng.Ac7 (Go.Eng.Ab6 rfl (.tail _ (.tail _ (.tail _ (.tail _ (.head _))))) Go.Eng.Tyc.h rfl) rfl rfl rfl ?_ | refine Go.Eng.Ac7 (Go.Eng.Ah2 rfl (.tail _ (.tail _ (.tail _ (.tail _ (.head _))))) Go.Eng.Tyc.h rfl) rfl rfl rfl ?_ | refine Go.Eng.Ac7 (Go.Eng.Ab6 rfl (.tail _ (.tail _ (.tail _ (.tail _ (.tail _ (.head _)))))) Go.Eng.Tyc.h rfl) rfl rfl rfl ?_ | refine Go.Eng.Ac7 (Go.Eng.Ah2 rfl (.tail _ (.tail _ (.tail _ (.tail _ (.tail _ (.head _)))))) Go.Eng.Tyc.h rfl) rfl rfl rfl ?_);exact k):RunL P ops Q n (o::rest) r ds W chg news:=Ab7 hi hg hd hn hc (h k)
theorem lu {o:Oper} {v:Value} {q:Prop} (hv:Val P r W chg news o v) (k:q) (hg:guardB ops r o.guard=some true:=by rfl) (hd:o.dst=some d:=by rfl) (hn:Nat.ble (d + 1) n=true:=by rfl)
    (h:q→RunL P ops Q n rest ((d,v)::r) ds W chg news:=by intro k;(repeat first | refine Go.Eng.vp rfl rfl rfl rfl ?_ | with_reducible refine Go.Eng.RunL.nil ?_ | with_reducible refine Go.Eng.RunE.next ?_ | with_reducible refine Go.Eng.RunC.seq ?_ | with_reducible refine Go.Eng.RunC.region ?_ | with_reducible refine Go.Eng.RunC.skip ?_ | with_reducible refine Go.Eng.RunC.block ?_ | with_reducible refine Go.Eng.RunE.block_normal ?_ | with_reducible refine Go.Eng.RunC.ret ?_ | with_reducible refine Go.Eng.Ad3 ?_ | with_reducible refine Go.Eng.Ad2 ?_ | with_reducible refine Go.Eng.Al2 ?_ | refine Go.Eng.Ab8 rfl rfl rfl ?_ | refine Go.Eng.Ac7 (Go.Eng.Val.fieldAddr rfl Go.Eng.Fld.h) rfl rfl rfl ?_ | refine Go.Eng.Ac7 (Go.Eng.Al1 rfl Go.Eng.Slc.h) rfl rfl rfl ?_ | refine Go.Eng.Ac7 (Go.Eng.Ab6 rfl (.head _) Go.Eng.Tyc.h rfl) rfl rfl rfl ?_ | refine Go.Eng.Ac7 (Go.Eng.Ah2 rfl (.head _) Go.Eng.Tyc.h rfl) rfl rfl rfl ?_ | refine Go.Eng.Ac7 (Go.Eng.Ab6 rfl (.tail _ (.head _)) Go.Eng.Tyc.h rfl) rfl rfl rfl ?_ | refine Go.Eng.Ac7 (Go.Eng.Ah2 rfl (.tail _ (.head _)) Go.Eng.Tyc.h rfl) rfl rfl rfl ?_ | refine Go.Eng.Ac7 (Go.Eng.Ab6 rfl (.tail _ (.tail _ (.head _))) Go.Eng.Tyc.h rfl) rfl rfl rfl ?_ | refine Go.Eng.Ac7 (Go.Eng.Ah2 rfl (.tail _ (.tail _ (.head _))) Go.Eng.Tyc.h rfl) rfl rfl rfl ?_ | refine Go.Eng.Ac7 (Go.Eng.Ab6 rfl (.tail _ (.tail _ (.tail _ (.head _)))) Go.Eng.Tyc.h rfl) rfl rfl rfl ?_ | refine Go.Eng.Ac7 (Go.Eng.Ah2 rfl (.tail _ (.tail _ (.tail _ (.head _)))) Go.Eng.Tyc.h rfl) rfl rfl rfl ?_ | refine Go.Eng.Ac7 (Go.Eng.Ab6 rfl (.tail _ (.tail _ (.tail _ (.tail _ (.head _))))) Go.Eng.Tyc.h rfl) rfl rfl rfl ?_ | refine Go.Eng.Ac7 (Go.Eng.Ah2 rfl (.tail _ (.tail _ (.tail _ (.tail _ (.head _))))) Go.Eng.Tyc.h rfl) rfl rfl rfl ?_ | refine Go.Eng.Ac7 (Go.Eng.Ab6 rfl (.tail _ (.tail _ (.tail _ (.tail _ (.tail _ (.head _)))))) Go.Eng.Tyc.h rfl) rfl rfl rfl ?_ | refine Go.Eng.Ac7 (Go.Eng.Ah2 rfl (.tail _ (.tail _ (.tail _ (.tail _ (.tail _ (.head _)))))) Go.Eng.Tyc.h rfl) rfl rfl rfl ?_);exact k):RunL P ops Q n (o::rest) r ds W chg news:=Ac7 hv hg hd hn (h k)
theorem zn {o:Oper} {v:Nat→Value} {ob:Obj} {q:Nat→Prop} (hv:New P r W chg news o v ob) (k:∀ b,q b) (hg:guardB ops r o.guard=some true:=by rfl) (hd:o.dst=some d:=by rfl) (hn:Nat.ble (d + 1) n=true:=by rfl)
    (h:∀ b,q b→RunL P ops Q n rest ((d,v b)::r) ds W chg ((b,ob)::news):=by intro b;intro k;(repeat first | refine Go.Eng.vp rfl rfl rfl rfl ?_ | with_reducible refine Go.Eng.RunL.nil ?_ | with_reducible refine Go.Eng.RunE.next ?_ | with_reducible refine Go.Eng.RunC.seq ?_ | with_reducible refine Go.Eng.RunC.region ?_ | with_reducible refine Go.Eng.RunC.skip ?_ | with_reducible refine Go.Eng.RunC.block ?_ | with_reducible refine Go.Eng.RunE.block_normal ?_ | with_reducible refine Go.Eng.RunC.ret ?_ | with_reducible refine Go.Eng.Ad3 ?_ | with_reducible refine Go.Eng.Ad2 ?_ | with_reducible refine Go.Eng.Al2 ?_ | refine Go.Eng.Ab8 rfl rfl rfl ?_ | refine Go.Eng.Ac7 (Go.Eng.Val.fieldAddr rfl Go.Eng.Fld.h) rfl rfl rfl ?_ | refine Go.Eng.Ac7 (Go.Eng.Al1 rfl Go.Eng.Slc.h) rfl rfl rfl ?_ | refine Go.Eng.Ac7 (Go.Eng.Ab6 rfl (.head _) Go.Eng.Tyc.h rfl) rfl rfl rfl ?_ | refine Go.Eng.Ac7 (Go.Eng.Ah2 rfl (.head _) Go.Eng.Tyc.h rfl) rfl rfl rfl ?_ | refine Go.Eng.Ac7 (Go.Eng.Ab6 rfl (.tail _ (.head _)) Go.Eng.Tyc.h rfl) rfl rfl rfl ?_ | refine Go.Eng.Ac7 (Go.Eng.Ah2 rfl (.tail _ (.head _)) Go.Eng.Tyc.h rfl) rfl rfl rfl ?_ | refine Go.Eng.Ac7 (Go.Eng.Ab6 rfl (.tail _ (.tail _ (.head _))) Go.Eng.Tyc.h rfl) rfl rfl rfl ?_ | refine Go.Eng.Ac7 (Go.Eng.Ah2 rfl (.tail _ (.tail _ (.head _))) Go.Eng.Tyc.h rfl) rfl rfl rfl ?_ | refine Go.Eng.Ac7 (Go.Eng.Ab6 rfl (.tail _ (.tail _ (.tail _ (.head _)))) Go.Eng.Tyc.h rfl) rfl rfl rfl ?_ | refine Go.Eng.Ac7 (Go.Eng.Ah2 rfl (.tail _ (.tail _ (.tail _ (.head _)))) Go.Eng.Tyc.h rfl) rfl rfl rfl ?_ | refine Go.Eng.Ac7 (Go.Eng.Ab6 rfl (.tail _ (.tail _ (.tail _ (.tail _ (.head _))))) Go.Eng.Tyc.h rfl) rfl rfl rfl ?_ | refine Go.Eng.Ac7 (Go.Eng.Ah2 rfl (.tail _ (.tail _ (.tail _ (.tail _ (.head _))))) Go.Eng.Tyc.h rfl) rfl rfl rfl ?_ | refine Go.Eng.Ac7 (Go.Eng.Ab6 rfl (.tail _ (.tail _ (.tail _ (.tail _ (.tail _ (.head _)))))) Go.Eng.Tyc.h rfl) rfl rfl rfl ?_ | refine Go.Eng.Ac7 (Go.Eng.Ah2 rfl (.tail _ (.tail _ (.tail _ (.tail _ (.tail _ (.head _)))))) Go.Eng.Tyc.h rfl) rfl rfl rfl ?_);exact k):RunL P ops Q n (o::rest) r ds W chg news:=AV9 hv hg hd hn fun b=>h b (k b)
end
theorem su {p q:Prop} (k:q) (h:q→p:=by intro k;(repeat first | refine Go.Eng.vp rfl rfl rfl rfl ?_ | with_reducible refine Go.Eng.RunL.nil ?_ | with_reducible refine Go.Eng.RunE.next ?_ | with_reducible refine Go.Eng.RunC.seq ?_ | with_reducible refine Go.Eng.RunC.region ?_ | with_reducible refine Go.Eng.RunC.skip ?_ | with_reducible refine Go.Eng.RunC.block ?_ | with_reducible refine Go.Eng.RunE.block_normal ?_ | with_reducible refine Go.Eng.RunC.ret ?_ | with_reducible refine Go.Eng.Ad3 ?_ | with_reducible refine Go.Eng.Ad2 ?_ | with_reducible refine Go.Eng.Al2 ?_ | refine Go.Eng.Ab8 rfl rfl rfl ?_ | refine Go.Eng.Ac7 (Go.Eng.Val.fieldAddr rfl Go.Eng.Fld.h) rfl rfl rfl ?_ | refine Go.Eng.Ac7 (Go.Eng.Al1 rfl Go.Eng.Slc.h) rfl rfl rfl ?_ | refine Go.Eng.Ac7 (Go.Eng.Ab6 rfl (.head _) Go.Eng.Tyc.h rfl) rfl rfl rfl ?_ | refine Go.Eng.Ac7 (Go.Eng.Ah2 rfl (.head _) Go.Eng.Tyc.h rfl) rfl rfl rfl ?_ | refine Go.Eng.Ac7 (Go.Eng.Ab6 rfl (.tail _ (.head _)) Go.Eng.Tyc.h rfl) rfl rfl rfl ?_ | refine Go.Eng.Ac7 (Go.Eng.Ah2 rfl (.tail _ (.head _)) Go.Eng.Tyc.h rfl) rfl rfl rfl ?_ | refine Go.Eng.Ac7 (Go.Eng.Ab6 rfl (.tail _ (.tail _ (.head _))) Go.Eng.Tyc.h rfl) rfl rfl rfl ?_ | refine Go.Eng.Ac7 (Go.Eng.Ah2 rfl (.tail _ (.tail _ (.head _))) Go.Eng.Tyc.h rfl) rfl rfl rfl ?_ | refine Go.Eng.Ac7 (Go.Eng.Ab6 rfl (.tail _ (.tail _ (.tail _ (.head _)))) Go.Eng.Tyc.h rfl) rfl rfl rfl ?_ | refine Go.Eng.Ac7 (Go.Eng.Ah2 rfl (.tail _ (.tail _ (.tail _ (.head _)))) Go.Eng.Tyc.h rfl) rfl rfl rfl ?_ | refine Go.Eng.Ac7 (Go.Eng.Ab6 rfl (.tail _ (.tail _ (.tail _ (.tail _ (.head _))))) Go.Eng.Tyc.h rfl) rfl rfl rfl ?_ | refine Go.Eng.Ac7 (Go.Eng.Ah2 rfl (.tail _ (.tail _ (.tail _ (.tail _ (.head _))))) Go.Eng.Tyc.h rfl) rfl rfl rfl ?_ | refine Go.Eng.Ac7 (Go.Eng.Ab6 rfl (.tail _ (.tail _ (.tail _ (.tail _ (.tail _ (.head _)))))) Go.Eng.Tyc.h rfl) rfl rfl rfl ?_ | refine Go.Eng.Ac7 (Go.Eng.Ah2 rfl (.tail _ (.tail _ (.tail _ (.tail _ (.tail _ (.head _)))))) Go.Eng.Tyc.h rfl) rfl rfl rfl ?_);exact k):p:=h k
end Go.Eng
namespace Go.Pw1
open Go Go.Eng

structure Sp where
  lo:Int
  hi:Int
  deriving DecidableEq
structure Th where
  lx:Sp
  ly:Sp
  rx:Sp
  ry:Sp
  far:Int
  deriving DecidableEq
structure Pr where
  focal:Sp
  base:Sp
  tilt:Int
  near:Int
  far:Int
  things:List Th

def Sp.v (s:Sp):Value:=.agg #[.int .i64 s.lo,.int .i64 s.hi]
def Th.cells (t:Th):List Value:=[.int .i64 t.lx.lo,.int .i64 t.lx.hi,.int .i64 t.ly.lo,.int .i64 t.ly.hi,.int .i64 t.rx.lo,.int .i64 t.rx.hi,.int .i64 t.ry.lo,.int .i64 t.ry.hi,.int .i64 t.far]
def Th.v (t:Th):Value:=.agg t.cells.toArray
def Pr.cells (p:Pr) (q:Option Addr) (cap:Nat):List Value:=[.int .i64 p.focal.lo,.int .i64 p.focal.hi,.int .i64 p.base.lo,.int .i64 p.base.hi,.int .i64 p.tilt,.int .i64 p.near,.int .i64 p.far,.slice q p.things.length cap]
def Pr.v (p:Pr) (q:Option Addr) (cap:Nat):Value:=.agg (p.cells q cap).toArray
def vwCells (p:Pr) (q:Option Addr) (cap:Nat) (w:Int×Int):List Value:=[.int .i64 p.focal.lo,.int .i64 p.focal.hi,.int .i64 p.base.lo,.int .i64 p.base.hi,.int .i64 p.tilt,.int .i64 p.near,.int .i64 p.far,.slice q p.things.length cap,.int .i64 w.1,.int .i64 w.2]
def b2c (b:Int×Int):List Value:=[.int .i64 b.1,.int .i64 b.2]
def b2v (b:Int×Int):Value:=.agg #[.int .i64 b.1,.int .i64 b.2]

theorem AR0 {a b A B:Int} (ha:0≤a) (ha':a≤A) (hb:0≤b) (hb':b≤B):0≤a * b∧a * b≤A * B :=
  ⟨Int.mul_nonneg ha hb,Int.le_trans (Int.mul_le_mul_of_nonneg_left hb' ha) (Int.mul_le_mul_of_nonneg_right ha' (Int.le_trans hb hb'))⟩

/-! ## The package -/
def within (n lo hi:Int):Bool:=decide (lo≤n) && decide (n≤hi)
def isSpan (s:Sp) (lo hi:Int):Bool:=decide (lo≤s.lo) && decide (s.lo≤s.hi) && decide (s.hi≤hi)
def isPlace (x y:Sp):Bool:=isSpan x (-4000) 4000 && isSpan y (-4000) 4000
def bad (p:Pr) (t:Th):Bool:=!isPlace t.lx t.ly || !isPlace t.rx t.ry || (!decide (t.far=0) && !within t.far p.near p.far)
def isPair (p:Pr):Bool :=
  (isSpan p.focal 1 50000 && isSpan p.base 1 10000 && within p.tilt 0 1000) && within p.near 2000 1073741824 && within p.far p.near 1073741824 && decide ((p.things.length:Int)≤12) && !p.things.any (bad p)

def Sp.Ok (s:Sp) (b:Int):Prop:=-b≤s.lo∧s.lo≤s.hi∧s.hi≤b
def Th.Ok (t:Th):Prop:=t.lx.Ok 4000∧t.ly.Ok 4000∧t.rx.Ok 4000∧t.ry.Ok 4000
structure Pr.Ok (p:Pr):Prop where
  f1:1≤p.focal.lo
  f2:p.focal.lo≤p.focal.hi
  f3:p.focal.hi≤50000
  b1:1≤p.base.lo
  b2:p.base.lo≤p.base.hi
  b3:p.base.hi≤10000
  t1:0≤p.tilt
  t2:p.tilt≤1000
  n1:2000≤p.near
  n2:p.near≤p.far
  n3:p.far≤1073741824
  len:p.things.length≤12
  ths:∀ t∈p.things,t.Ok∧(t.far=0∨(p.near≤t.far∧t.far≤p.far))
theorem Am1 {p:Pr} (h:isPair p=true):p.Ok:=by
  simp only [isPair,isSpan,within,Bool.and_eq_true,decide_eq_true_eq,Bool.not_eq_true',List.any_eq_false] at h;obtain ⟨⟨⟨⟨⟨⟨h1,h2⟩,h3⟩,h4⟩,h5⟩,h6⟩,h7⟩:=h;refine ⟨by omega,by omega,by omega,by omega,by omega,by omega,by omega,by omega,by omega,by omega,by omega,by omega,fun t ht=>?_⟩
  have:=h7 t ht
  simp only [bad,isPlace,isSpan,within,Bool.or_eq_true,Bool.not_eq_true',Bool.and_eq_true,decide_eq_true_eq,Bool.and_eq_false_iff,decide_eq_false_iff_not,not_or,Bool.not_eq_false',not_and] at this;unfold Th.Ok Sp.Ok;refine ⟨by omega,?_⟩
  by_cases h0:t.far=0
  · exact .inl h0
  · right;omega

def shift (t:Th):Int×Int:=(t.lx.lo - t.rx.hi,t.lx.hi - t.rx.lo)
def nar (a b:Int×Int):Int×Int:=(max a.1 b.1,min a.2 b.2)
def narL (a:Int×Int) (l:List (Int×Int)):Int×Int:=l.foldl nar a
theorem Bv2 (a:Int×Int) (l:List (Int×Int)) (x:Int×Int):narL a (l++[x])=nar (narL a l) x:=by simp [narL,List.foldl_append]
def isB (a:Int×Int):Bool:=decide (a.1≤a.2)
theorem BN6 {t:Th} (h:t.Ok):(-8000≤(shift t).1∧(shift t).1≤8000)∧(-8000≤(shift t).2∧(shift t).2≤8000):=by
  obtain ⟨⟨h1,h2,h3⟩,⟨h4,h5,h6⟩,⟨h7,h8,h9⟩,⟨h10,h11,h12⟩⟩:=h;simp only [shift];omega
def shownS (t:Th):Int×Int:=nar (shift t) (0,2000)
def levelS (p:Pr) (t:Th):Bool:=isB (nar (t.ly.lo - t.ry.hi,t.ly.hi - t.ry.lo) (-p.tilt,p.tilt))
def powersS (p:Pr) (t:Th) (s:Int×Int):Int×Int:=if t.far=0 then (s.1 * p.near,(s.2 + 1) * p.far - 1) else (s.1 * t.far,(s.2 + 1) * t.far - 1)
def stillS (p:Pr) (t:Th) (w:Int×Int):(Int×Int)×Bool :=
  if isB (shownS t) && levelS p t then (nar w (powersS p t (shownS t)),isB (nar w (powersS p t (shownS t)))) else (w,false)

theorem AU5 {t:Th} (h:isB (shownS t)=true):0≤(shownS t).1∧(shownS t).1≤(shownS t).2∧(shownS t).2≤2000:=by
  simp only [isB,decide_eq_true_eq] at h;refine ⟨?_,h,?_⟩
  · simp only [shownS,nar];omega
  · simp only [shownS,nar];omega
def idxF {α:Type} (f:α→Bool):List α→Int
  | []=>-1
  | x::l=>if f x then 0 else if idxF f l < 0 then -1 else idxF f l + 1
theorem Ba0 {α:Type} (f:α→Bool):∀ l,-1≤idxF f l
  | []=>by simp [idxF]
  | x::l=>by have:=Ba0 f l;unfold idxF;split <;> (try split) <;> omega
theorem Aw8 {α:Type} (f:α→Bool):∀ l,l.any f=false→idxF f l = -1
  | [],_=>rfl
  | x::l,h=>by
    simp only [List.any_cons,Bool.or_eq_false_iff] at h
    have:=Aw8 f l h.2
    simp [idxF,h.1,this]
theorem AI2 {α:Type} (f:α→Bool):∀ l,decide (0≤idxF f l)=l.any f
  | []=>by simp [idxF]
  | x::l=>by
    have ih:=AI2 f l
    have:=Ba0 f l
    cases hx:f x
    · simp only [List.any_cons,hx,Bool.false_or,← ih,idxF]
      by_cases h:idxF f l < 0
      · simp [h,show ¬ 0≤idxF f l by omega]
      · simp [h,show 0≤idxF f l by omega];omega
    · simp [idxF,hx]
theorem AC8 {α:Type} (f:α→Bool):∀ (l:List α) (k:Nat) (h:k < l.length),(l.take k).any f=false→f l[k]=true→idxF f l=k
  | [],k,h,_,_=>by simp at h
  | x::l,0,_,_,h=>by simp at h;simp [idxF,h]
  | x::l,k + 1,h,h1,h2=>by
    simp only [List.take_succ_cons,List.any_cons,Bool.or_eq_false_iff] at h1;have ih:=AC8 f l k (by simpa using h) h1.2 (by simpa using h2);simp only [idxF,h1.1,ih];simp
    omega
theorem Ay9 {α:Type} {f:α→Bool} {l:List α} {k:Nat} (h:k < l.length) (h1:(l.take k).any f=false) (h2:f l[k]=false):(l.take (k + 1)).any f=false:=by
  rw [List.take_succ_eq_append_getElem h,List.any_append,h1];simp [h2]

theorem Cv0 {α:Type} {f:α→Bool} {l:List α} {k:Nat} (h:k < l.length) (h2:f l[k]=true):l.any f=true:=List.any_eq_true.2 ⟨_,List.getElem_mem h,h2⟩
def needX (b:Bool) (e:Int):Except Int Value:=if b then .ok (.tuple #[]) else .error e
theorem Ae7 {b:Bool} {e:Int} {v:Value} (h:needX b e = .ok v):b=true∧v = .tuple #[]:=by
  unfold needX at h;split at h
  · cases h;exact ⟨by assumption,rfl⟩
  · cases h
theorem Ae0 {b:Bool} {e k:Int} (h:needX b e = .error k):b=false∧k=e:=by
  unfold needX at h;split at h
  · cases h
  · cases h;exact ⟨by simp_all,rfl⟩
def openX (p:Pr) (l:List Int):Except Int Unit :=
  if isPair p then (if l.any (fun n=>!within n 0 ((p.things.length:Int) - 1)) then .error 2 else .ok ()) else .error 1
def lookL (p:Pr) (w:Int×Int):List Th→Option (Int×Int)
  | []=>some w
  | t::l=>if t.far=0 then lookL p w l else if (stillS p t w).2 then lookL p (stillS p t w).1 l else none
def lookS (p:Pr):Option (Int×Int):=lookL p (p.focal.lo * p.base.lo,p.focal.hi * p.base.hi) p.things
def lookX (p:Pr):Except Int (Int×Int):=match lookS p with | some w=>.ok w | none=>.error 4
theorem Ay5 (p:Pr):∀ (l l2:List Th) (w:Int×Int),lookL p w (l++l2)=match lookL p w l with | some u=>lookL p u l2 | none=>none
  | [],l2,w=>by simp [lookL]
  | t::l,l2,w=>by
    simp only [List.cons_append,lookL]
    split
    · exact Ay5 p l l2 w
    · split
      · exact Ay5 p l l2 _
      · rfl
theorem Am0 {p:Pr} {l:List Th} {w u:Int×Int} {k:Nat} (hk:k < l.length) {t:Th} (ht:l[k]=t) (h:lookL p w (l.take k)=some u):lookL p w (l.take (k + 1))=lookL p u [t]:=by
  subst ht;rw [List.take_succ_eq_append_getElem hk,Ay5,h]
theorem Cl1 {p:Pr} {l:List Th} {w u:Int×Int} {k:Nat} (hk:k < l.length) {t:Th} (ht:l[k]=t) (h:lookL p w (l.take k)=some u) (h2:lookL p u [t]=none):lookL p w l=none:=by
  have h3:lookL p w (l.take (k + 1))=none:=by rw [Am0 hk ht h,h2]
  have h4:=Ay5 p (l.take (k + 1)) (l.drop (k + 1)) w;rw [List.take_append_drop,h3] at h4;exact h4
theorem AM1 {p:Pr} {l:List Int} {u:Unit} (h:openX p l = .ok u):isPair p=true∧l.any (fun n=>!within n 0 ((p.things.length:Int) - 1))=false:=by
  unfold openX at h
  split at h
  · split at h
    · cases h
    · exact ⟨by assumption,by simp_all⟩
  · cases h
def truthsX (p:Pr) (l:List Int):Except Int (Int×Int):=match openX p l with | .error k=>.error k | .ok _=>lookX p

theorem AM2 {p:Pr} {l:List Int} {u:Unit} (h:openX p l = .ok u) {n:Int} (hn:n∈l):∃ k:Nat,n=k∧k < p.things.length:=by
  have h2:=(AM1 h).2;have h3:=List.any_eq_false.1 h2 n hn;simp only [within,Bool.not_eq_true',Bool.and_eq_true,decide_eq_true_eq,Bool.not_eq_false',Bool.not_eq_true,Bool.not_eq_false] at h3;obtain ⟨k,rfl⟩:=Int.eq_ofNat_of_zero_le (by omega:0≤n);exact ⟨k,rfl,by omega⟩
theorem BT3 {p:Pr} {l:List Int} {w:Int×Int} (h:truthsX p l = .ok w):openX p l = .ok ()∧lookS p=some w:=by
  unfold truthsX lookX at h
  split at h
  · cases h
  · rename_i u hu
    split at h
    · rename_i w' hw
      cases h
      exact ⟨hu,hw⟩
    · cases h
theorem BG1 {p:Pr}:∀ {l:List Th} {w u:Int×Int},lookL p w l=some u→w.1≤w.2→w.1≤u.1∧u.2≤w.2∧u.1≤u.2
  | [],w,u,h,h0=>by cases h;omega
  | t::l,w,u,h,h0=>by
    simp only [lookL] at h
    split at h
    · exact BG1 h h0
    · split at h
      · rename_i hs
        have hst:(stillS p t w).1.1≤(stillS p t w).1.2∧w.1≤(stillS p t w).1.1∧(stillS p t w).1.2≤w.2:=by
          unfold stillS at hs ⊢
          split
          · rename_i hc
            rw [if_pos hc] at hs;simp only [isB,decide_eq_true_eq] at hs;refine ⟨hs,?_,?_⟩ <;> simp only [nar] <;> omega
          · rename_i hc
            rw [if_neg hc] at hs;cases hs
        have:=BG1 h hst.1
        omega
      · cases h
theorem Cl2 {p:Pr} (hp:p.Ok) {w:Int×Int} (h:lookX p = .ok w):1≤w.1∧w.1≤w.2∧w.2≤500000000:=by
  have f1:=hp.f1;have f2:=hp.f2;have f3:=hp.f3;have b1:=hp.b1;have b2:=hp.b2;have b3:=hp.b3;have m2:=AR0 (a:=p.focal.hi) (b:=p.base.hi) (A:=50000) (B:=10000) (by omega) (by omega) (by omega) (by omega);have m1:1 * 1≤p.focal.lo * p.base.lo:=Int.mul_le_mul f1 b1 (by omega) (by omega);have m3:p.focal.lo * p.base.lo≤p.focal.hi * p.base.hi:=Int.mul_le_mul f2 b2 (by omega) (by omega);unfold lookX at h
  split at h
  · rename_i w' hw
    cases h
    have:=BG1 (show lookL p _ p.things=some w from hw) m3
    simp only at this
    omega
  · cases h
theorem Bb1 {a b:Int} (h0:0≤a) (h1:a≤1000000000000) (hb:0 < b):-9223372036854775808≤a / b∧a / b≤9223372036854775807:=by
  have h2:=Int.ediv_nonneg h0 (Int.le_of_lt hb);have h3:=Int.ediv_le_self b h0;omega
def thingAt (p:Pr) (n:Int):Th:=p.things.getD n.toNat ⟨⟨0,0⟩,⟨0,0⟩,⟨0,0⟩,⟨0,0⟩,0⟩
theorem Af2 {p:Pr} {k:Nat} {t:Th} (hk:k < p.things.length) (ht:p.things[k]=t):thingAt p (k:Int)=t:=by simp [thingAt,hk,ht]
def shiftX (p:Pr) (n:Int):(Int×Int)×Int:=match openX p [n] with | .error k=>((0,0),k) | .ok _=>(shift (thingAt p n),0)
def powerX (p:Pr):(Int×Int)×Int:=match truthsX p [] with | .error k=>((0,0),k) | .ok w=>(w,0)
def standsX (p:Pr) (far:Int):(Int×Int)×Int :=
  match openX p [] with
  | .error k=>((0,0),k)
  | .ok _=>if within far p.near p.far then (match lookX p with | .error k=>((0,0),k) | .ok w=>((w.1 / far,w.2 / far),0)) else ((0,0),2)


/-! ## The reference -/
theorem Ck2 {a b A B:Int} (ha:-A≤a∧a≤A) (hb:0≤b) (hb':b≤B):-(A * B)≤a * b∧a * b≤A * B:=by
  have hA:0≤A:=by omega
  have h1:=Int.mul_le_mul_of_nonneg_right ha.2 hb;have h2:=Int.mul_le_mul_of_nonneg_right ha.1 hb;have h3:=Int.mul_le_mul_of_nonneg_left hb' hA;rw [Int.neg_mul] at h2;omega
def powersR (p:Pr) (t:Th):Int×Int:=if isB (shownS t) && levelS p t then powersS p t (shownS t) else (1,0)
def allL (p:Pr) (w:Int×Int):List Th→Int×Int
  | []=>w
  | t::l=>if t.far=0 then allL p w l else allL p (nar w (powersR p t)) l
def powers0 (p:Pr):Int×Int:=(p.focal.lo * p.base.lo,p.focal.hi * p.base.hi)
def allS (p:Pr):Int×Int:=allL p (powers0 p) p.things
theorem De6 (a b:Int×Int):a.1≤(nar a b).1∧(nar a b).2≤a.2:=by simp only [nar];omega
theorem Bc2 (p:Pr):∀ (l:List Th) (w:Int×Int),w.1≤(allL p w l).1∧(allL p w l).2≤w.2
  | [],w=>by simp [allL]
  | t::l,w=>by
    simp only [allL]
    split
    · exact Bc2 p l w
    · have h1:=Bc2 p l (nar w (powersR p t))
      have h2:=De6 w (powersR p t);omega
theorem Bn6 (p:Pr):∀ (l:List Th) (w:Int×Int),w.1≤w.2→lookL p w l=if isB (allL p w l) then some (allL p w l) else none
  | [],w,h=>by simp [lookL,allL,isB,h]
  | t::l,w,h=>by
    simp only [lookL,allL]
    split
    · exact Bn6 p l w h
    · unfold stillS powersR
      split
      · rename_i hc
        cases hb:isB (nar w (powersS p t (shownS t))) with
        | true=>simp only [if_true];exact Bn6 p l _ (by simpa [isB] using hb)
        | false =>
          simp only [Bool.false_eq_true,if_false];have h1:=Bc2 p l (nar w (powersS p t (shownS t)));rw [if_neg];simp only [isB,decide_eq_false_iff_not,decide_eq_true_eq] at hb ⊢;omega
      · simp only [Bool.false_eq_true,if_false]
        have h1:=Bc2 p l (nar w (1,0));rw [if_neg];have h2:(nar w (1,0)).1 ≥ 1∧(nar w (1,0)).2≤0:=by simp only [nar];omega
        simp only [isB,decide_eq_true_eq];omega
theorem Bg5 {p:Pr} (hp:p.Ok):(powers0 p).1≤(powers0 p).2∧1≤(powers0 p).1∧(powers0 p).2≤500000000:=by
  have f1:=hp.f1;have f2:=hp.f2;have f3:=hp.f3;have b1:=hp.b1;have b2:=hp.b2;have b3:=hp.b3;have m2:=AR0 (a:=p.focal.hi) (b:=p.base.hi) (A:=50000) (B:=10000) (by omega) (by omega) (by omega) (by omega);have m1:1 * 1≤p.focal.lo * p.base.lo:=Int.mul_le_mul f1 b1 (by omega) (by omega);have m3:p.focal.lo * p.base.lo≤p.focal.hi * p.base.hi:=Int.mul_le_mul f2 b2 (by omega) (by omega);simp only [powers0];omega
theorem BP2 {p:Pr} (hp:p.Ok):lookX p=if isB (allS p) then .ok (allS p) else .error 4:=by
  have h:=Bn6 p p.things (powers0 p) (Bg5 hp).1;unfold lookX;rw [show lookS p=lookL p (powers0 p) p.things from rfl,h];unfold allS
  split <;> rename_i h2 <;> split at h2 <;> simp_all
def thingR (p:Pr) (n:Int):Bool:=within n 0 ((p.things.length:Int) - 1)
def openR (p:Pr) (valid:Bool):(Int×Int)×Int:=if isPair p then (if valid then (if isB (allS p) then (allS p,0) else ((0,0),4)) else ((0,0),2)) else ((0,0),1)
def shiftR (p:Pr) (n:Int):(Int×Int)×Int:=if isPair p then (if thingR p n then (shift (thingAt p n),0) else ((0,0),2)) else ((0,0),1)
def powerR (p:Pr):(Int×Int)×Int:=openR p true
def standsR (p:Pr) (far:Int):(Int×Int)×Int:=let s:=openR p (within far p.near p.far);if s.2 ≠ 0 then ((0,0),s.2) else ((s.1.1 / far,s.1.2 / far),0)
end Go.Pw1
namespace Go.Pw1
open Go Go.Eng
def whyS (p:Pr) (t:Th) (w:Int×Int):Int :=
  if (stillS p t w).2 then 0 else 1 + idxF id [!levelS p t,decide ((shift t).2 < 0),decide (2000 < (shift t).1∨w.2 < (shift t).1 * p.near),true]
def whyX (p:Pr) (n:Int):Int×Int:=match truthsX p [n] with | .error k=>(0,k) | .ok w=>(whyS p (thingAt p n) w,0)
def distX (p:Pr) (n:Int):(Int×Int)×Int :=
  match truthsX p [n] with
  | .error k=>((0,0),k)
  | .ok w =>
    let t:=thingAt p n
    if (stillS p t w).2 then
      if t.far ≠ 0 then ((t.far,t.far),0) else (nar (p.near,p.far) (w.1 / ((shownS t).2 + 1) + 1,if 0 < (shownS t).1 then w.2 / (shownS t).1 else p.far),0)
    else ((0,0),11)
theorem CF2 {α:Type} (f:α→Bool) (l:List α):-1≤idxF f l:=Ba0 f l
theorem Bn8 {α:Type} (f:α→Bool):∀ l:List α,idxF f l < l.length∨idxF f l = -1
  | []=>by simp [idxF]
  | x::l=>by
    have h:=Bn8 f l;unfold idxF
    split
    · left;simp only [List.length_cons];omega
    · split
      · exact .inr rfl
      · left;simp only [List.length_cons];omega
theorem Aw4 {p:Pr} {l:List Int} {w:Int×Int} (h:truthsX p l = .ok w):p.Ok∧openX p l = .ok ()∧1≤w.1∧w.1≤w.2∧w.2≤500000000:=by
  obtain ⟨h1,h2⟩:=BT3 h;have hp:=Am1 (AM1 h1).1;have h3:=Cl2 hp (w:=w) (by unfold lookX;rw [h2]);exact ⟨hp,h1,h3⟩
theorem Bt1 {p:Pr} {t:Th} {w:Int×Int} (h:(stillS p t w).2=true):isB (shownS t)=true∧levelS p t=true:=by
  unfold stillS at h
  split at h
  · rename_i h1;rw [Bool.and_eq_true] at h1;exact h1
  · cases h
theorem BQ7 {a b:Int} (h0:0≤a) (h1:a≤1000000000000) (hb:0 < b):-9223372036854775808≤a / b + 1∧a / b + 1≤9223372036854775807:=by
  have h2:=Int.ediv_nonneg h0 (Int.le_of_lt hb);have h3:=Int.ediv_le_self b h0;omega
end Go.Pw1
namespace Go.Pw1
open Go Go.Eng
structure Cd where
  p:Pr
  half:Int
  step:Int
  cuts:Int
  eyes:Sp
  prism:Int
  squeeze:Int
  front:Int
  deep:Int
structure Tr where
  ll:Int
  lr:Int
  rl:Int
  rr:Int
  deriving DecidableEq
def Tr.cells (t:Tr):List Value:=[.int .i64 t.ll,.int .i64 t.lr,.int .i64 t.rl,.int .i64 t.rr]
def Tr.v (t:Tr):Value:=.agg #[.int .i64 t.ll,.int .i64 t.lr,.int .i64 t.rl,.int .i64 t.rr]
def Cd.cells (c:Cd) (q:Option Addr) (cap:Nat):List Value:=[.int .i64 c.p.focal.lo,.int .i64 c.p.focal.hi,.int .i64 c.p.base.lo,.int .i64 c.p.base.hi,.int .i64 c.p.tilt,.int .i64 c.p.near,.int .i64 c.p.far,.slice q c.p.things.length cap,
  .int .i64 c.half,.int .i64 c.step,.int .i64 c.cuts,.int .i64 c.eyes.lo,.int .i64 c.eyes.hi,.int .i64 c.prism,.int .i64 c.squeeze,.int .i64 c.front,.int .i64 c.deep]
def Cd.v (c:Cd) (q:Option Addr) (cap:Nat):Value:=.agg (c.cells q cap).toArray
def cdCells (c:Cd) (q:Option Addr) (cap:Nat) (m:Nat):List Value:=[.int .i64 c.p.focal.lo,.int .i64 c.p.focal.hi,.int .i64 c.p.base.lo,.int .i64 c.p.base.hi,.int .i64 c.p.tilt,.int .i64 c.p.near,.int .i64 c.p.far,.slice q c.p.things.length cap,
  .int .i64 c.half,.int .i64 c.step,.int .i64 c.cuts,.int .i64 c.eyes.lo,.int .i64 c.eyes.hi,.int .i64 c.prism,.int .i64 c.squeeze,.int .i64 c.front,.int .i64 c.deep,.map (some m)]
def mtV (b:Nat) (t:Tr):Value:=.agg #[.pointer (some ⟨b,0,none⟩),.int .i64 t.ll,.int .i64 t.lr,.int .i64 t.rl,.int .i64 t.rr]
def sizesM (c:Cd):Bool:=within c.half 1 4000 && within c.step 1 100 && within c.cuts 0 40
def eyesM (c:Cd):Bool:=decide (1≤c.eyes.lo) && decide (c.eyes.lo≤c.eyes.hi) && decide (c.eyes.hi≤10000)
def badM (n:Int):Bool:=!within n 0 10000
def cardIs (c:Cd):Bool:=!decide ((powerX c.p).2=1) && (sizesM c && eyesM c) && ![c.prism,c.squeeze,c.front,c.deep].any badM
structure Cd.Ok (c:Cd):Prop where
  h1:1≤c.half
  h2:c.half≤4000
  s1:1≤c.step
  s2:c.step≤100
  c1:0≤c.cuts
  c2:c.cuts≤40
  e1:1≤c.eyes.lo
  e2:c.eyes.lo≤c.eyes.hi
  e3:c.eyes.hi≤10000
  p1:0≤c.prism
  p2:c.prism≤10000
  q1:0≤c.squeeze
  q2:c.squeeze≤10000
  f1:0≤c.front
  f2:c.front≤10000
  d1:0≤c.deep
  d2:c.deep≤10000
theorem CB6 {c:Cd} (h1:sizesM c=true) (h2:eyesM c=true) (h3:[c.prism,c.squeeze,c.front,c.deep].any badM=false):c.Ok:=by
  simp only [sizesM,eyesM,badM,within,List.any_cons,List.any_nil,Bool.or_false,Bool.or_eq_false_iff,Bool.and_eq_true,decide_eq_true_eq,Bool.not_eq_false'] at h1 h2 h3;obtain ⟨⟨⟨_,_⟩,_,_⟩,_,_⟩:=h1;obtain ⟨⟨_,_⟩,_⟩:=h2;obtain ⟨⟨_,_⟩,⟨_,_⟩,⟨_,_⟩,_,_⟩:=h3;exact ⟨by assumption,by assumption,by assumption,by assumption,by assumption,by assumption,by assumption,by assumption,by assumption,by assumption,by assumption,by assumption,by assumption,by assumption,by assumption,by assumption,by assumption⟩
theorem AB1 {c:Cd} (h:cardIs c=true):c.Ok∧(powerX c.p).2 ≠ 1:=by
  simp only [cardIs,Bool.and_eq_true,Bool.not_eq_true',decide_eq_false_iff_not] at h;exact ⟨CB6 h.1.2.1 h.1.2.2 h.2,h.1.1⟩
def badT (c:Cd) (n:Int):Bool:=!within n 0 c.cuts
def trIs (c:Cd) (t:Tr):Bool:=![t.ll,t.lr,t.rl,t.rr].any (badT c) && decide (t.ll + t.lr=t.rl + t.rr)
structure Tr.Ok (t:Tr) (k:Int):Prop where
  a1:0≤t.ll
  a2:t.ll≤k
  b1:0≤t.lr
  b2:t.lr≤k
  c1:0≤t.rl
  c2:t.rl≤k
  d1:0≤t.rr
  d2:t.rr≤k
theorem Cu6 {c:Cd} {t:Tr} (h:[t.ll,t.lr,t.rl,t.rr].any (badT c)=false):t.Ok c.cuts:=by
  simp only [badT,within,List.any_cons,List.any_nil,Bool.or_false,Bool.or_eq_false_iff,Bool.and_eq_true,decide_eq_true_eq,Bool.not_eq_false'] at h;obtain ⟨⟨_,_⟩,⟨_,_⟩,⟨_,_⟩,_,_⟩:=h;exact ⟨by assumption,by assumption,by assumption,by assumption,by assumption,by assumption,by assumption,by assumption⟩
theorem AW7 {c:Cd} {t:Tr} (h:trIs c t=true):t.Ok c.cuts∧t.ll + t.lr=t.rl + t.rr:=by
  simp only [trIs,Bool.and_eq_true,Bool.not_eq_true',decide_eq_true_eq] at h;exact ⟨Cu6 h.1,h.2⟩
def openM (c:Cd) (l:List Tr):Int:=if cardIs c then (if l.all (trIs c) then (powerX c.p).2 else 2) else 1
theorem AM3 {c:Cd} {l:List Tr} (h:openM c l=0):cardIs c=true∧l.all (trIs c)=true∧(powerX c.p).2=0:=by
  unfold openM at h
  split at h
  · split at h
    · exact ⟨by assumption,by assumption,h⟩
    · simp at h
  · simp at h
def seenK (p:Pr):Nat→List (Int×(Int×Int))
  | 0=>[]
  | k + 1=>if (whyX p k).1=0 then seenK p k++[((k:Int),(shiftX p k).1)] else seenK p k
def seenM (p:Pr):List (Int×(Int×Int)):=seenK p p.things.length
def entsV (l:List (Int×(Int×Int))):List (Int×Value):=l.map fun e=>(e.1,b2v e.2)
def mEnts (p:Pr):List (Int×Value):=entsV (seenM p)
theorem AL6 {p:Pr} {k:Nat} (h:(whyX p k).1=0):seenK p (k + 1)=seenK p k++[((k:Int),(shiftX p k).1)]:=by simp [seenK,h]
theorem BN9 {p:Pr} {k:Nat} (h:(whyX p k).1 ≠ 0):seenK p (k + 1)=seenK p k:=by simp [seenK,h]
theorem AL7 (p:Pr):∀ k,∀ e∈seenK p k,∃ j:Nat,e=((j:Int),(shiftX p j).1)∧j < k∧(whyX p j).1=0
  | 0,e,h=>by cases h
  | k + 1,e,h=>by
    unfold seenK at h
    split at h
    · rename_i hw
      rcases List.mem_append.1 h with h | h
      · obtain ⟨j,h1,h2,h3⟩:=AL7 p k e h;exact ⟨j,h1,by omega,h3⟩
      · cases List.mem_singleton.1 h;exact ⟨k,rfl,by omega,hw⟩
    · obtain ⟨j,h1,h2,h3⟩:=AL7 p k e h;exact ⟨j,h1,by omega,h3⟩
theorem AU8 {p:Pr}:∀ {k j:Nat},j < k→(whyX p j).1=0→((j:Int),(shiftX p j).1)∈seenK p k
  | k + 1,j,hj,hw=>by
    unfold seenK
    rcases Nat.lt_or_ge j k with h | h
    · split
      · exact List.mem_append_left _ (AU8 h hw)
      · exact AU8 h hw
    · have:j=k:=by omega
      subst this;rw [if_pos hw];simp
theorem Ck9 {l:List (Int×Value)} {a:Int} (h:∀ e∈l,e.1 ≠ a):mIdx l a=none:=by
  induction l with
  | nil=>rfl
  | cons x l ih =>
    unfold mIdx;rw [if_neg (h x (by simp)),ih (fun e he=>h e (List.mem_cons_of_mem _ he))];rfl
theorem Bv7 (l l2:List (Int×Value)) (a:Int):mFind (l++l2) a=(mFind l a).or (mFind l2 a):=by
  unfold mFind
  induction l with
  | nil=>simp [mIdx]
  | cons x l ih =>
    simp only [List.cons_append,mIdx]
    by_cases h:x.1=a
    · simp [h]
    · simp only [h,if_false,Option.map_map]
      have h2:∀ o:Option (Nat×Value),(o.map ((fun x=>x.2) ∘ fun p:Nat×Value=>(p.1 + 1,p.2)))=o.map (·.2):=fun o=>by cases o <;> rfl
      rw [h2,h2,ih]
theorem Cl0 (p:Pr) (j:Nat):∀ k,mFind (entsV (seenK p k)) j=if j < k∧(whyX p j).1=0 then some (b2v (shiftX p j).1) else none
  | 0=>by simp [seenK,entsV,mFind,mIdx]
  | k + 1=>by
    have ih:=Cl0 p j k;unfold seenK
    by_cases hw:(whyX p k).1=0
    · rw [if_pos hw,show entsV (seenK p k++[((k:Int),(shiftX p k).1)])=entsV (seenK p k)++[((k:Int),b2v (shiftX p k).1)] by simp [entsV],Bv7,ih]
      rcases Nat.lt_trichotomy j k with h | h | h
      · by_cases hj:(whyX p j).1=0
        · simp [h,hj,Nat.lt_succ_of_lt h]
        · have:¬ (k:Int)=j:=by omega
          simp [hj,mFind,mIdx,this]
      · subst h;simp [hw,mFind,mIdx]
      · have:¬ (k:Int)=j:=by omega
        rw [if_neg (by omega),if_neg (by omega)];simp [mFind,mIdx,this]
    · rw [if_neg hw,ih]
      by_cases hj:(whyX p j).1=0
      · have:j ≠ k:=fun e=>hw (e ▸ hj)
        by_cases h:j < k
        · simp [h,hj,Nat.lt_succ_of_lt h]
        · rw [if_neg (by omega),if_neg (by omega)]
      · simp [hj]
theorem AP6 {p:Pr} {j:Nat} (h:j < p.things.length):mFind (mEnts p) j=if (whyX p j).1=0 then some (b2v (shiftX p j).1) else none:=by
  unfold mEnts seenM;rw [Cl0];simp [h]
def seenN (p:Pr):List Int:=(seenM p).map (·.1)
def seenNK (p:Pr) (k:Nat):List Int:=(seenK p k).map (·.1)
theorem Av3 {p:Pr} {k:Nat} (h:(whyX p k).1=0):seenNK p (k + 1)=seenNK p k++[(k:Int)]:=by simp [seenNK,seenK,h]
theorem AA5 {p:Pr} {k:Nat} (h:(whyX p k).1 ≠ 0):seenNK p (k + 1)=seenNK p k:=by simp [seenNK,seenK,h]
theorem AO8 (p:Pr):∀ k,(seenNK p k).length≤k
  | 0=>by simp [seenNK,seenK]
  | k + 1=>by
    have:=AO8 p k
    by_cases h:(whyX p k).1=0
    · rw [Av3 h];simp;omega
    · rw [AA5 h];omega
theorem AU7 {p:Pr} {i:Int} (h:i∈seenN p):∃ j:Nat,i=j∧j < p.things.length∧(whyX p j).1=0:=by
  obtain ⟨e,he,rfl⟩:=List.mem_map.1 h;obtain ⟨j,rfl,h2,h3⟩:=AL7 p _ e he;exact ⟨j,rfl,h2,h3⟩
/-! ## Why a thing hurts -/
def windowM (c:Cd) (t:Tr):Int:=c.step * (t.ll - t.rl)
def apartM (c:Cd) (t:Tr):Int:=2 * c.half - c.step * (t.lr + t.rl)
def offM (c:Cd) (t:Tr) (x:Th):Bool:=(decide (x.lx.lo < c.step * t.ll - c.half) || decide (c.half - c.step * t.lr < x.lx.hi)) || (decide (x.rx.lo < c.step * t.rl - c.half) || decide (c.half - c.step * t.rr < x.rx.hi))
def hurtL (c:Cd) (t:Tr) (s:Int×Int) (x:Th):List Bool:=[decide (apartM c t - s.2 < c.eyes.hi - c.squeeze),decide (c.eyes.lo + c.prism < apartM c t - s.1),decide (windowM c t + c.front < s.2),decide (s.1 < windowM c t - c.deep),offM c t x]
def whyM (c:Cd) (t:Tr) (i:Int):Int:=idxF id (hurtL c t (shiftX c.p i).1 (thingAt c.p i)) + 1
theorem Cy6 (c:Cd) (t:Tr) (i:Int):0≤whyM c t i∧whyM c t i≤5:=by
  have h1:=Ba0 id (hurtL c t (shiftX c.p i).1 (thingAt c.p i));have h2:=Bn8 id (hurtL c t (shiftX c.p i).1 (thingAt c.p i));have h3:((hurtL c t (shiftX c.p i).1 (thingAt c.p i)).length:Int)=5:=rfl;unfold whyM;omega
def hurtF (c:Cd) (t:Tr):List Int→Int×Int
  | []=>(0,0)
  | i::l=>if whyM c t i=0 then hurtF c t l else (i,whyM c t i)
def hurtM (c:Cd) (t:Tr):Int×Int:=hurtF c t (seenN c.p)
theorem Bx2 {c:Cd} {t:Tr}:∀ {l:List Int},(∀ i∈l,whyM c t i=0)→hurtF c t l=(0,0)
  | [],_=>rfl
  | i::l,h=>by simp [hurtF,h i (by simp),Bx2 (fun j hj=>h j (List.mem_cons_of_mem _ hj))]
theorem Bx1 {c:Cd} {t:Tr}:∀ {l:List Int} {k:Nat} (hk:k < l.length),(∀ j (h:j < k),whyM c t l[j]=0)→whyM c t l[k] ≠ 0→hurtF c t l=(l[k],whyM c t l[k])
  | i::l,0,_,_,h=>by simp at h;simp [hurtF,h]
  | i::l,k + 1,hk,h1,h2=>by
    have h0:=h1 0 (by omega);simp only [List.getElem_cons_zero] at h0;simp only [hurtF,h0,if_true,List.getElem_cons_succ] at h2 ⊢;exact Bx1 (by simpa using hk) (fun j h=>by simpa using h1 (j + 1) (by omega)) h2
end Go.Pw1
namespace Go.Pw1
open Go Go.Eng
/-! ## All trimmings, those with fewer steps first -/
def oneLo (c:Cd) (one:Int):Int:=max 0 (one - c.cuts)
def oneHi (c:Cd) (one:Int):Int:=min one c.cuts
def fromZ (lo:Int):Nat→List Int
  | 0=>[]
  | n + 1=>fromZ lo n++[lo + n]
theorem AN1 (lo:Int):∀ n,(fromZ lo n).length=n
  | 0=>rfl
  | n + 1=>by simp [fromZ,AN1 lo n]
theorem Ba2 {lo a:Int}:∀ {n:Nat},a∈fromZ lo n ↔ lo≤a∧a < lo + n
  | 0=>by simp only [fromZ,List.not_mem_nil,false_iff];omega
  | n + 1=>by
    simp only [fromZ,List.mem_append,List.mem_singleton,Ba2 (n:=n)];omega
def oneN (c:Cd) (one:Int):Nat:=(oneHi c one + 1 - oneLo c one).toNat
def trD (one a:Int) (l:List Int):List Tr:=l.map fun d=>⟨a,one - a,d,one - d⟩
def trA (c:Cd) (one:Int) (l:List Int):List Tr:=l.flatMap fun a=>trD one a (fromZ (oneLo c one) (oneN c one))
def trO (c:Cd) (l:List Int):List Tr:=l.flatMap fun one=>trA c one (fromZ (oneLo c one) (oneN c one))
def trimsM (c:Cd):List Tr:=trO c (fromZ 0 (2 * c.cuts + 1).toNat)
theorem CA0 (one a d:Int) (l:List Int):trD one a (l++[d])=trD one a l++[⟨a,one - a,d,one - d⟩]:=by simp [trD]
theorem CA1 (c:Cd) (one a:Int) (l:List Int):trA c one (l++[a])=trA c one l++trD one a (fromZ (oneLo c one) (oneN c one)):=by simp [trA]
theorem Cz9 (c:Cd) (one:Int) (l:List Int):trO c (l++[one])=trO c l++trA c one (fromZ (oneLo c one) (oneN c one)):=by simp [trO]
theorem AL5 {c:Cd} (hc:c.Ok) {t:Tr}:t∈trimsM c ↔ trIs c t=true:=by
  have c1:=hc.c1;simp only [trimsM,trO,trA,trD,List.mem_flatMap,List.mem_map,Ba2,oneN,oneLo,oneHi,trIs,badT,within,List.any_cons,List.any_nil,Bool.or_false,Bool.and_eq_true,Bool.not_eq_true',Bool.or_eq_false_iff,Bool.not_eq_false',decide_eq_true_eq]
  constructor
  · rintro ⟨one,h1,a,h2,d,h3,rfl⟩
    simp only
    omega
  · rintro ⟨h1,h2⟩
    exact ⟨t.ll + t.lr,by omega,t.ll,by omega,t.rl,by omega,by cases t;simp only at h1 h2 ⊢;congr 1 <;> omega⟩
/-! ## Which comes before -/
def sumT (t:Tr):Int:=t.ll + t.lr + t.rl + t.rr
def lexT (a b:Tr):Prop:=a.ll < b.ll∨(a.ll=b.ll∧(a.lr < b.lr∨(a.lr=b.lr∧(a.rl < b.rl∨(a.rl=b.rl∧a.rr < b.rr)))))
instance (a b:Tr):Decidable (lexT a b):=by unfold lexT;infer_instance
def befT (a b:Tr):Prop:=sumT a < sumT b∨(sumT a=sumT b∧lexT a b)
instance (a b:Tr):Decidable (befT a b):=by unfold befT;infer_instance
theorem AV3 (lo:Int):∀ n,(fromZ lo n).Pairwise (· < ·)
  | 0=>List.Pairwise.nil
  | n + 1=>by
    simp only [fromZ];refine List.pairwise_append.2 ⟨AV3 lo n,List.pairwise_singleton _ _,fun a ha b hb=>?_⟩
    have:=Ba2.1 ha
    cases List.mem_singleton.1 hb
    omega
theorem Dc3 (one a:Int) {l:List Int} (h:l.Pairwise (· < ·)):(trD one a l).Pairwise befT:=by
  unfold trD;refine List.pairwise_map.2 (h.imp fun {x y} hxy=>?_)
  right
  refine ⟨by simp only [sumT];omega,.inr ⟨rfl,.inr ⟨rfl,.inl hxy⟩⟩⟩
theorem AP9 {α β:Type} {R:α→α→Prop} {S:β→β→Prop} {f:α→List β}:∀ {l:List α},l.Pairwise R→(∀ a∈l,(f a).Pairwise S)→(∀ a b,R a b→∀ x∈f a,∀ y∈f b,S x y)→(l.flatMap f).Pairwise S
  | [],_,_,_=>by simp
  | a::l,h,h1,h2=>by
    cases h with
    | cons ha hl =>
      rw [List.flatMap_cons];refine List.pairwise_append.2 ⟨h1 a (by simp),AP9 hl (fun b hb=>h1 b (List.mem_cons_of_mem _ hb)) h2,fun x hx y hy=>?_⟩
      obtain ⟨b,hb,hy⟩:=List.mem_flatMap.1 hy;exact h2 a b (ha b hb) x hx y hy
theorem BN3 (c:Cd):(trimsM c).Pairwise befT:=by
  refine AP9 (AV3 _ _) (fun one _=>AP9 (AV3 _ _) (fun a _=>Dc3 one a (AV3 _ _)) fun a b hab x hx y hy=>?_) fun a b hab x hx y hy=>?_
  · obtain ⟨d,_,rfl⟩:=List.mem_map.1 hx
    obtain ⟨e,_,rfl⟩:=List.mem_map.1 hy;simp only [befT,sumT,lexT];omega
  · obtain ⟨a1,_,hx⟩:=List.mem_flatMap.1 hx
    obtain ⟨b1,_,hy⟩:=List.mem_flatMap.1 hy;obtain ⟨d,_,rfl⟩:=List.mem_map.1 hx;obtain ⟨e,_,rfl⟩:=List.mem_map.1 hy;simp only [befT,sumT,lexT];omega
def fitT (c:Cd) (t:Tr):Bool:=decide ((hurtM c t).2=0)
def bestM (c:Cd):Option Tr:=(trimsM c).find? (fitT c)
def trimX (c:Cd):Tr×Int:=if openM c []=0 then (match bestM c with | some t=>(t,0) | none=>(⟨0,0,0,0⟩,11)) else (⟨0,0,0,0⟩,openM c [])
/-! ## Two things that are too far apart -/
def wideR (p:Pr) (most i:Int):List Int→Option Int
  | []=>none
  | k::l=>if most < (shiftX p i).1.2 - (shiftX p k).1.1 then some k else wideR p most i l
/-! ## Eyes, room, depths -/
def roomOf (c:Cd) (t:Tr):Int×Int:=nar (nar (0,2000) (windowM c t - c.deep,windowM c t + c.front)) (apartM c t - c.eyes.lo - c.prism,apartM c t - c.eyes.hi + c.squeeze)
def roomX (c:Cd) (t:Tr):(Int×Int)×Int:=if openM c [t]=0 then (if (roomOf c t).2 < (roomOf c t).1 then ((0,0),4) else (roomOf c t,0)) else ((0,0),openM c [t])
def leastN (f:Nat→Bool):Nat→Nat
  | 0=>0
  | n + 1=>if leastN f n < n then leastN f n else if f n then n else n + 1
theorem Ap2 (f:Nat→Bool):∀ n,leastN f n≤n
  | 0=>Nat.le_refl _
  | n + 1=>by have:=Ap2 f n;unfold leastN;split <;> (try split) <;> omega
theorem AI0 (f:Nat→Bool):∀ n j,j < leastN f n→f j=false
  | 0,j,h=>by simp [leastN] at h
  | n + 1,j,h=>by
    unfold leastN at h;have hl:=Ap2 f n
    split at h
    · exact AI0 f n j h
    · have hn:leastN f n=n:=by omega
      split at h
      · exact AI0 f n j (by omega)
      · rcases Nat.lt_or_ge j n with h2 | h2
        · exact AI0 f n j (by omega)
        · have:j=n:=by omega
          subst this;simp_all
theorem Bw2 (f:Nat→Bool):∀ n,leastN f n < n→f (leastN f n)=true
  | 0,h=>by simp at h
  | n + 1,h=>by
    have h0:leastN f (n + 1)=if leastN f n < n then leastN f n else if f n then n else n + 1:=rfl;rw [h0] at h ⊢;have hl:=Ap2 f n
    split
    · rename_i h2;exact Bw2 f n h2
    · split
      · assumption
      · rename_i h2 h3;rw [if_neg h2,if_neg h3] at h;omega
theorem AZ3 {f:Nat→Bool} {n m:Nat} (hm:m≤n) (h1:∀ j,j < m→f j=false) (h2:m < n→f m=true):leastN f n=m:=by
  rcases Nat.lt_trichotomy (leastN f n) m with h | h | h
  · have:=Bw2 f n (by omega);rw [h1 _ h] at this;cases this
  · exact h
  · have h3:=AI0 f n m h
    have:=Ap2 f n
    rw [h2 (by omega)] at h3;cases h3
def standsAt (p:Pr) (z:Int):Int×Int:=(standsX p z).1
def depthsOf (c:Cd) (r:Int×Int):Int×Int :=
  let n:=(c.p.far - c.p.near + 1).toNat
  (c.p.near + leastN (fun i=>decide ((standsAt c.p (c.p.near + i)).2≤r.2)) n,c.p.near + leastN (fun i=>decide ((standsAt c.p (c.p.near + i)).1 < r.1)) n - 1)
def depthsX (c:Cd) (t:Tr):(Int×Int)×Int:=if (roomX c t).2=0 then (if (depthsOf c (roomX c t).1).2 < (depthsOf c (roomX c t).1).1 then ((0,0),4) else (depthsOf c (roomX c t).1,0)) else ((0,0),(roomX c t).2)
def hurtsX (c:Cd) (t:Tr):Int×Int×Int:=if openM c [t]=0 then (if (hurtM c t).2=0 then (0,0,0) else ((hurtM c t).1,(hurtM c t).2,11)) else (0,0,openM c [t])
def bitsOf:List Int→Nat
  | []=>0
  | i::l=>bitsOf l ||| 2 ^ i.toNat
def seenX (c:Cd):Int×Int:=if openM c []=0 then ((bitsOf (seenN c.p):Int),0) else (0,openM c [])
end Go.Pw1
namespace Go.Hp
def free (f u i:Nat):Bool:=f.testBit i && !u.testBit i
def waysL (ne:Nat):List Nat→Nat→List (List Nat)
  | [],_=>[[]]
  | f::fs,u=>(List.range ne).flatMap fun i=>if free f u i then (waysL ne fs (u ||| 2 ^ i)).map (i::·) else []
def cntL (ne:Nat):List Nat→Nat→Nat
  | [],_=>1
  | f::fs,u=>((List.range ne).map fun i=>if free f u i then cntL ne fs (u ||| 2 ^ i) else 0).sum
theorem AV5 (ne:Nat):∀ (fs:List Nat) (u:Nat),cntL ne fs u=(waysL ne fs u).length
  | [],_=>rfl
  | f::fs,u=>by
    simp only [cntL,waysL,List.length_flatMap]
    congr 1
    refine List.map_congr_left fun i _=>?_
    split
    · rw [List.length_map,AV5 ne fs]
    · rfl
def WayR (ne:Nat):List Nat→Nat→List Nat→Prop
  | [],_,[]=>True
  | f::fs,u,i::l=>i < ne∧free f u i=true∧WayR ne fs (u ||| 2 ^ i) l
  | _,_,_=>False
theorem De7 {ne:Nat}:∀ {fs:List Nat} {u:Nat} {l:List Nat},l∈waysL ne fs u ↔ WayR ne fs u l
  | [],u,l=>by
    cases l <;> simp [waysL,WayR]
  | f::fs,u,l=>by
    simp only [waysL,List.mem_flatMap,List.mem_range]
    constructor
    · rintro ⟨i,hi,h⟩
      split at h
      · rename_i hf
        obtain ⟨l',h',rfl⟩:=List.mem_map.1 h;exact ⟨hi,hf,De7.1 h'⟩
      · cases h
    · intro h
      cases l with
      | nil=>exact h.elim
      | cons i l =>
        obtain ⟨h1,h2,h3⟩:=h;exact ⟨i,h1,by rw [if_pos h2];exact List.mem_map.2 ⟨l,De7.2 h3,rfl⟩⟩
theorem Bb9 (u i x:Nat):(u ||| 2 ^ i).testBit x=(u.testBit x || decide (i=x)):=by
  rw [Nat.testBit_or,Nat.testBit_two_pow]
structure Way (ne:Nat) (fs:List Nat) (u:Nat) (l:List Nat):Prop where
  len:l.length=fs.length
  fit:∀ k (h:k < l.length),l[k] < ne∧(fs.getD k 0).testBit l[k]=true
  new:∀ x∈l,u.testBit x=false
  nd:l.Nodup
theorem Db1 {ne:Nat}:∀ {fs:List Nat} {u:Nat} {l:List Nat},WayR ne fs u l ↔ Way ne fs u l
  | [],u,[]=>⟨fun _=>⟨rfl,fun k h=>absurd h (by simp),fun x hx=>(by cases hx),List.nodup_nil⟩,fun _=>trivial⟩
  | [],u,i::l=>⟨fun h=>h.elim,fun h=>by have:=h.len;simp at this⟩
  | f::fs,u,[]=>⟨fun h=>h.elim,fun h=>by have:=h.len;simp at this⟩
  | f::fs,u,i::l=>by
    show (i < ne∧free f u i=true∧WayR ne fs (u ||| 2 ^ i) l) ↔ _
    rw [Db1];simp only [free,Bool.and_eq_true,Bool.not_eq_true']
    constructor
    · rintro ⟨h1,⟨h2,h3⟩,h4⟩
      refine ⟨by simp [h4.len],?_,?_,?_⟩
      · intro k hk
        cases k with
        | zero=>exact ⟨h1,h2⟩
        | succ k=>simpa using h4.fit k (by simpa using hk)
      · intro x hx
        rcases List.mem_cons.1 hx with rfl | hx
        · exact h3
        · have:=h4.new x hx
          rw [Bb9,Bool.or_eq_false_iff] at this;exact this.1
      · refine List.nodup_cons.2 ⟨fun hx=>?_,h4.nd⟩
        have:=h4.new i hx
        rw [Bb9] at this;simp at this
    · intro h
      have h0:=h.fit 0 (by simp);refine ⟨h0.1,⟨h0.2,h.new i (by simp)⟩,⟨by have:=h.len;simpa using this,?_,?_,(List.nodup_cons.1 h.nd).2⟩⟩
      · intro k hk
        have:=h.fit (k + 1) (by simpa using hk)
        simpa using this
      · intro x hx
        rw [Bb9,Bool.or_eq_false_iff];refine ⟨h.new x (List.mem_cons_of_mem _ hx),?_⟩
        rw [decide_eq_false_iff_not]
        rintro rfl
        exact (List.nodup_cons.1 h.nd).1 hx
theorem BM6 {ne:Nat} {fs:List Nat} {u:Nat} {l:List Nat}:l∈waysL ne fs u ↔ Way ne fs u l:=De7.trans Db1
theorem AP9 {α β:Type} {R:α→α→Prop} {S:β→β→Prop} {f:α→List β}:∀ {l:List α},l.Pairwise R→(∀ a∈l,(f a).Pairwise S)→(∀ a b,R a b→∀ x∈f a,∀ y∈f b,S x y)→(l.flatMap f).Pairwise S
  | [],_,_,_=>by simp
  | a::l,h,h1,h2=>by
    cases h with
    | cons ha hl =>
      rw [List.flatMap_cons];refine List.pairwise_append.2 ⟨h1 a (by simp),AP9 hl (fun b hb=>h1 b (List.mem_cons_of_mem _ hb)) h2,fun x hx y hy=>?_⟩
      obtain ⟨b,hb,hy⟩:=List.mem_flatMap.1 hy;exact h2 a b (ha b hb) x hx y hy
theorem De4 {α:Type} [DecidableEq α] {l m:List α} (hl:l.Nodup) (hm:m.Nodup) (h:∀ x,x∈l ↔ x∈m):l.length=m.length:=((List.perm_ext_iff_of_nodup hl hm).2 (fun {x}=>h x)).length_eq
def firstL (ne:Nat):List Nat→Nat→List Nat
  | [],_=>[]
  | f::fs,u=>match (List.range ne).find? fun i=>free f u i && decide (0 < cntL ne fs (u ||| 2 ^ i)) with
    | some i=>i::firstL ne fs (u ||| 2 ^ i)
    | none=>firstL ne fs u
theorem By4 {α β:Type} {f:α→List β} {p:α→Bool} {g:α→Option β} (hp:∀ a,p a=false→f a=[]) (hg:∀ a,p a=true→(f a).head? = g a∧(g a).isSome):∀ l:List α,(l.flatMap f).head? = (l.find? p).bind g
  | []=>rfl
  | a::l=>by
    rw [List.flatMap_cons,List.find?_cons]
    cases h:p a with
    | false=>rw [hp a h,List.nil_append];exact By4 hp hg l
    | true =>
      obtain ⟨h1,h2⟩:=hg a h;rw [List.head?_append,h1]
      cases h3:g a with
      | none=>rw [h3] at h2;cases h2
      | some x=>simp [h3]
theorem Bi4 (ne:Nat):∀ (fs:List Nat) (u:Nat),0 < cntL ne fs u→(waysL ne fs u).head? = some (firstL ne fs u)
  | [],_,_=>rfl
  | f::fs,u,h=>by
    have e:=By4 (f:=fun i=>if free f u i then (waysL ne fs (u ||| 2 ^ i)).map (i::·) else []) (p:=fun i=>free f u i && decide (0 < cntL ne fs (u ||| 2 ^ i))) (g:=fun i=>some (i::firstL ne fs (u ||| 2 ^ i)))
      (fun i hi=>by
        split
        · rename_i hf
          simp only [hf,Bool.true_and,decide_eq_false_iff_not] at hi;rw [List.map_eq_nil_iff];rw [AV5] at hi;exact List.length_eq_zero_iff.1 (by omega)
        · rfl)
      (fun i hi=>by
        rw [Bool.and_eq_true,decide_eq_true_eq] at hi;rw [if_pos hi.1,List.head?_map,Bi4 ne fs _ hi.2];exact ⟨rfl,rfl⟩) (List.range ne)
    show ((List.range ne).flatMap _).head? = _
    rw [e];have e3:firstL ne (f::fs) u=match (List.range ne).find? fun i=>free f u i && decide (0 < cntL ne fs (u ||| 2 ^ i)) with | some i=>i::firstL ne fs (u ||| 2 ^ i) | none=>firstL ne fs u:=rfl
    rw [e3]
    cases h2:(List.range ne).find? (fun i=>free f u i && decide (0 < cntL ne fs (u ||| 2 ^ i))) with
    | some i=>rfl
    | none =>
      exfalso
      rw [h2] at e;have h3:(List.range ne).flatMap (fun i=>if free f u i then (waysL ne fs (u ||| 2 ^ i)).map (i::·) else [])=[]:=List.head?_eq_none_iff.1 e;have h4:waysL ne (f::fs) u=[]:=h3;rw [AV5,h4] at h
      cases h
theorem Cp4 {ne:Nat} {fs:List Nat} {u:Nat} (h:0 < cntL ne fs u):Way ne fs u (firstL ne fs u):=BM6.1 (List.mem_of_mem_head? (by rw [Bi4 ne fs u h];rfl))
/-! ## How often a card is an entry -/
def setC (fs:List Nat) (c e:Nat):List Nat:=fs.set c (fs.getD c 0 &&& 2 ^ e)
def shareL (ne:Nat) (fs:List Nat) (c e:Nat):Nat:=cntL ne (setC fs c e) 0
end Go.Hp
namespace Go.Hp
def nb (ne:Nat) (N:Nat→Nat→Bool) (S:List Nat):Nat:=(List.range ne).countP fun e=>S.any fun c=>N c e
structure Mat (ne:Nat) (N:Nat→Nat→Bool) (cs:List Nat) (m:Nat→Nat):Prop where
  fit:∀ c∈cs,m c < ne∧N c (m c)=true
  inj:∀ c∈cs,∀ d∈cs,m c=m d→c=d
theorem Bz8 {α:Type} (p q:α→Bool):∀ l:List α,l.countP (fun x=>p x || q x)=l.countP (fun x=>p x && !q x) + l.countP q
  | []=>rfl
  | a::l=>by
    have ih:=Bz8 p q l;simp only [List.countP_cons,ih]
    cases p a <;> cases q a <;> simp <;> omega
theorem Bj0 {p q:Nat→Bool} {e0:Nat} (h:∀ x,q x=(p x && !decide (x=e0))):∀ {l:List Nat},l.Nodup→l.countP p≤l.countP q + 1
  | [],_=>by simp
  | a::l,hl=>by
    obtain ⟨h1,h2⟩:=List.nodup_cons.1 hl
    by_cases ha:a=e0
    · subst ha
      have e:l.countP p=l.countP q:=by
        refine List.countP_congr fun x hx=>?_
        have:¬ x=a:=fun e=>h1 (e ▸ hx)
        rw [h x];simp [this]
      simp only [List.countP_cons];rw [e]
      split <;> split <;> omega
    · have ih:=Bj0 h h2
      simp only [List.countP_cons,h a];simp only [ha,decide_false,Bool.not_false,Bool.and_true];omega
theorem Cv1 {α:Type} (p:α→Bool) (b:Bool):∀ l:List α,l.any (fun c=>p c && b)=(l.any p && b)
  | []=>rfl
  | a::l=>by
    rw [List.any_cons,List.any_cons,Cv1 p b l]
    cases p a <;> cases b <;> simp
theorem AT4 (ne:Nat):∀ (n:Nat) (cs:List Nat),cs.length=n→cs.Nodup→∀ N:Nat→Nat→Bool,(∀ S:List Nat,S.Nodup→S ⊆ cs→S.length≤nb ne N S)→∃ m,Mat ne N cs m:=by
  intro n
  induction n using Nat.strongRecOn with
  | _ n ih =>
  intro cs hlen hnd N hH
  cases cs with
  | nil=>exact ⟨fun _=>0,fun c h=>(by cases h),fun c h=>(by cases h)⟩
  | cons c0 cs =>
    simp only [List.length_cons] at hlen
    by_cases hB:∃ S:List Nat,S.Nodup∧S ⊆ c0::cs∧S ≠ []∧S.length < n∧nb ne N S≤S.length
    · obtain ⟨S,s1,s2,s3,s4,s5⟩:=hB
      obtain ⟨m1,h1⟩:=ih S.length s4 S rfl s1 N fun T t1 t2=>hH T t1 fun x hx=>s2 (t2 hx)
      let R:=(c0::cs).filter fun x=>!decide (x∈S)
      have hR:∀ x,x∈R ↔ x∈c0::cs∧x ∉ S:=fun x=>by simp only [R,List.mem_filter,Bool.not_eq_true',decide_eq_false_iff_not]
      have hRl:R.length < n:=by
        have e:(c0::cs).filter (fun x=>decide (x∈S)) ≠ []:=by
          cases S with
          | nil=>exact absurd rfl s3
          | cons a S =>
            have:a∈(c0::cs).filter (fun x=>decide (x∈a::S)):=List.mem_filter.2 ⟨s2 (by simp),by simp⟩
            intro h;rw [h] at this;cases this
        have h3:((c0::cs).filter (fun x=>decide (x∈S))).length + R.length=(c0::cs).length:=by
          simp only [R,← List.countP_eq_length_filter]
          have:=List.length_eq_countP_add_countP (l:=c0::cs) (p:=fun x=>decide (x∈S))
          rw [this]
          congr 1
          refine List.countP_congr fun x _=>?_
          simp
        have h4:=List.length_pos_iff.2 e;simp only [List.length_cons] at h3;omega
      have hRn:R.Nodup:=hnd.filter _
      obtain ⟨m2,h2⟩:=ih R.length hRl R rfl hRn (fun c e=>N c e && !(S.any fun c=>N c e)) fun T t1 t2=>by
        have hd:(T++S).Nodup:=by
          rw [List.nodup_append];exact ⟨t1,s1,fun a ha b hb e=>((hR a).1 (t2 ha)).2 (e ▸ hb)⟩
        have h3:=hH (T++S) hd fun x hx=>by
          rcases List.mem_append.1 hx with h | h
          · exact ((hR x).1 (t2 h)).1
          · exact s2 h
        have h4:nb ne N (T++S)=nb ne (fun c e=>N c e && !(S.any fun c=>N c e)) T + nb ne N S:=by
          unfold nb;have e1:(fun e=>(T++S).any fun c=>N c e)=fun e=>(T.any fun c=>N c e) || (S.any fun c=>N c e):=by funext e;rw [List.any_append]
          have e2:(fun e=>T.any fun c=>N c e && !(S.any fun c=>N c e))=fun e=>(T.any fun c=>N c e) && !(S.any fun c=>N c e):=by
            funext e
            cases S.any fun c=>N c e <;> simp
          rw [e1,e2];exact Bz8 _ _ _
        rw [List.length_append] at h3;omega
      refine ⟨fun c=>if c∈S then m1 c else m2 c,fun c hc=>?_,fun c hc d hd he=>?_⟩
      · by_cases h:c∈S
        · simp only [if_pos h];exact h1.fit c h
        · simp only [if_neg h]
          have:=h2.fit c ((hR c).2 ⟨hc,h⟩)
          rw [Bool.and_eq_true] at this;exact ⟨this.1,this.2.1⟩
      · have cross:∀ a b,a∈S→b∈c0::cs→b ∉ S→m1 a ≠ m2 b:=fun a b ha hb hbS e=>by
          have g1:=h1.fit a ha;have g2:=h2.fit b ((hR b).2 ⟨hb,hbS⟩);rw [Bool.and_eq_true,Bool.not_eq_true',List.any_eq_false] at g2;exact g2.2.2 a ha (e ▸ g1.2)
        by_cases h:c∈S <;> by_cases h':d∈S <;> simp only [h,h',if_true,if_false] at he
        · exact h1.inj c h d h' he
        · exact absurd he (cross c d h hd h')
        · exact absurd he.symm (cross d c h' hc h)
        · exact h2.inj c ((hR c).2 ⟨hc,h⟩) d ((hR d).2 ⟨hd,h'⟩) he
    · have hA:∀ S:List Nat,S.Nodup→S ⊆ c0::cs→S ≠ []→S.length < n→S.length + 1≤nb ne N S:=fun S s1 s2 s3 s4=>by
        rcases Nat.lt_or_ge S.length (nb ne N S) with h | h
        · exact h
        · exact absurd ⟨S,s1,s2,s3,s4,h⟩ hB
      have h0:=hH [c0] (by simp) (by simp);have h0':0 < nb ne N [c0]:=h0;unfold nb at h0';rw [List.countP_pos_iff] at h0';obtain ⟨e0,he0,hN0⟩:=h0';have he0:=List.mem_range.1 he0;have hN0:N c0 e0=true:=by simpa using hN0
      obtain ⟨hc0,hcs⟩:=List.nodup_cons.1 hnd
      obtain ⟨m,hm⟩:=ih cs.length (by omega) cs rfl hcs (fun c e=>N c e && !decide (e=e0)) fun S s1 s2=>by
        cases S with
        | nil=>simp
        | cons a S =>
          have h1:=hA (a::S) s1 (fun x hx=>List.mem_cons_of_mem _ (s2 hx)) (by simp) (by have:=s1.length_le_of_subset s2;simp only [List.length_cons] at this ⊢;omega)
          have h2:nb ne N (a::S)≤nb ne (fun c e=>N c e && !decide (e=e0)) (a::S) + 1:=by
            unfold nb;refine Bj0 (e0:=e0) (fun x=>?_) List.nodup_range
            exact Cv1 (fun c=>N c x) (!decide (x=e0)) (a::S)
          omega
      have hne:∀ c∈cs,c ≠ c0:=fun c hc e=>hc0 (e ▸ hc)
      have hme:∀ c∈cs,m c ≠ e0:=fun c hc e=>by
        have:=(hm.fit c hc).2
        rw [e] at this;simp at this
      refine ⟨fun c=>if c=c0 then e0 else m c,fun c hc=>?_,fun c hc d hd he=>?_⟩
      · by_cases h:c=c0
        · simp only [if_pos h];exact ⟨he0,h ▸ hN0⟩
        · simp only [if_neg h]
          have:=hm.fit c ((List.mem_cons.1 hc).resolve_left h)
          rw [Bool.and_eq_true] at this;exact ⟨this.1,this.2.1⟩
      · by_cases h:c=c0 <;> by_cases h':d=c0 <;> simp only [h,h',if_true,if_false] at he
        · rw [h,h']
        · exact absurd he.symm (hme d ((List.mem_cons.1 hd).resolve_left h'))
        · exact absurd he (hme c ((List.mem_cons.1 hc).resolve_left h))
        · exact hm.inj c ((List.mem_cons.1 hc).resolve_left h) d ((List.mem_cons.1 hd).resolve_left h') he
theorem De5 {l:List Nat} (h:l.Nodup) {i j:Nat} (hi:i < l.length) (hj:j < l.length) (e:l[i]=l[j]):i=j:=by
  have hp:=List.pairwise_iff_getElem.1 h
  rcases Nat.lt_trichotomy i j with h1 | h1 | h1
  · exact absurd e (hp i j hi hj h1)
  · exact h1
  · exact absurd e.symm (hp j i hj hi h1)
def fitN (fs:List Nat) (c e:Nat):Bool:=(fs.getD c 0).testBit e
theorem Da9 {ne:Nat} {fs:List Nat} (h:∀ S:List Nat,S.Nodup→(∀ c∈S,c < fs.length)→S.length≤nb ne (fitN fs) S):∃ l,Way ne fs 0 l:=by
  obtain ⟨m,hm⟩:=AT4 ne fs.length (List.range fs.length) (by simp) List.nodup_range (fitN fs) fun S s1 s2=>h S s1 fun c hc=>List.mem_range.1 (s2 hc)
  refine ⟨(List.range fs.length).map m,by simp,fun k hk=>?_,fun x _=>by simp,?_⟩
  · have hk2:k < fs.length:=by simpa using hk
    simp only [List.getElem_map,List.getElem_range];exact hm.fit k (List.mem_range.2 hk2)
  · rw [List.nodup_iff_pairwise_ne,List.pairwise_map]
    exact List.nodup_range.imp_of_mem fun ha hb hab e=>hab (hm.inj _ ha _ hb e)
theorem Db0 {ne:Nat} {fs:List Nat} {l:List Nat} (h:Way ne fs 0 l) {S:List Nat} (hS:S.Nodup) (hb:∀ c∈S,c < fs.length):S.length≤nb ne (fitN fs) S:=by
  have h1:(S.map fun c=>l.getD c ne).Nodup:=by
    rw [List.nodup_iff_pairwise_ne,List.pairwise_map];refine hS.imp_of_mem fun {a b} ha hb' hab e=>hab ?_
    have ha2:a < l.length:=by rw [h.len];exact hb a ha
    have hb2:b < l.length:=by rw [h.len];exact hb b hb'
    simp only [List.getD_eq_getElem?_getD,List.getElem?_eq_getElem ha2,List.getElem?_eq_getElem hb2,Option.getD_some] at e;exact De5 h.nd ha2 hb2 e
  have h2:(S.map fun c=>l.getD c ne) ⊆ (List.range ne).filter fun e=>S.any fun c=>fitN fs c e:=by
    intro x hx;obtain ⟨c,hc,rfl⟩:=List.mem_map.1 hx;have hc2:c < l.length:=by rw [h.len];exact hb c hc
    have h3:=h.fit c hc2;have e:l.getD c ne=l[c]:=by simp [List.getD_eq_getElem?_getD,hc2]
    rw [e];exact List.mem_filter.2 ⟨List.mem_range.2 h3.1,List.any_eq_true.2 ⟨c,hc,h3.2⟩⟩
  have h3:=h1.length_le_of_subset h2;rw [List.length_map] at h3;rw [nb,List.countP_eq_length_filter];exact h3
end Go.Hp
