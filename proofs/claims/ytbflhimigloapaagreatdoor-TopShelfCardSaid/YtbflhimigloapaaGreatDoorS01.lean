/- Printed by our programs. -/
import Derived.Test.YtbflhimigloapaaGreatDoorS00
import Derived.RangeFuncNested
import Derived.OrdersIn
import Derived.ChangeKeysEq
import Derived.Laws.StructEq
import Derived.Maps.RangeRun
import Derived.Lib.Bytealg
import Derived.Laws.BytesString
import Derived.Laws.Strings
import Derived.Laws.Cells
import Derived.Laws.MakeOwn
import Derived.Lib.Builder
import Derived.Room.AppendFits
import Derived.Laws.CopyRow
set_option linter.unusedSimpArgs false
set_option linter.unusedVariables false
set_option linter.unusedSectionVars false
namespace Go.Eng
open Go Go.RowKit
theorem AM9 {F:Fence} {n:Nat} {P:Program} {Q:Exit→Act→World→Prop} {a:Act} {w:World} {c:Code} (h:c.wpIn F n P (Exit.noGoto Q) a w):(Code.scope c).wpIn F n P Q a w:=by
 intro b k cs hro hb hr;have st1:∀ a w k,step P (lone (b.atR a (.code (.scope c)::k)) cs w) = .next (lone (b.atR a (.code c::.inScope c::k)) cs w):=fun a w k=>step_lone_go (by simp [stepG,stepG.exec,Frame.atR])
 have st2:∀ a w k,step P (lone (b.atR a (.inScope c::k)) cs w) = .next (lone (b.atR a k) cs w):=fun a w k=>step_lone_go (by simp [stepG,stepG.exec,Frame.atR])
 have h0:(lone (b.atR a (.code (.scope c)::k)) cs w).fenced P F:=fenced_calm hb hr rfl;obtain ⟨e,a₁,w₁,hq,harr⟩:=h b (.inScope c::k) cs hro hb hr
 cases e with
 | normal=>exact ⟨.normal,a₁,w₁,hq,.head h0 (st1 _ _ _) (StepsIn.trans harr (.one (fenced_calm hb hr rfl) (st2 _ _ _)))⟩
 | exit id =>
   have hx:exitTo id (.inScope c::k)=exitTo id k:=by simp [exitTo]
   exact ⟨.exit id,a₁,w₁,hq,fun k' hk=>.head h0 (st1 _ _ _) (harr.1 k' (by rw [hx];exact hk)),fun hr' hk=>let ⟨k₁,h1,h2⟩:=harr.2 hr' (by rw [hx];exact hk);⟨k₁,h1,.head h0 (st1 _ _ _) h2⟩⟩
 | goto l=>exact hq.elim
 | ret=>exact ⟨_,a₁,w₁,hq,.of_steps (.one h0 (st1 _ _ _)) harr⟩
 | panic ch=>exact ⟨_,a₁,w₁,hq,.of_steps (.one h0 (st1 _ _ _)) harr⟩
 | outgrown=>exact ⟨_,a₁,w₁,hq,.of_steps (.one h0 (st1 _ _ _)) harr⟩
section
variable {ro:Option Nat} {P:Program} {ops:Array Oper} {Q:Exit→Act→World→Prop} {n:Nat} {r:Regs} {ds:List Deferred} {W:World} {chg news:Blks} {rest:List Oper}
def noDefers (ops:Array Oper):Bool:=ops.toList.all notDefer
theorem Du5 {row:String} {args:Array Value} {w:World} {R:Value→World→Prop} {m:Nat} (h:Rows P row args w R):RowsIn (Fr ro) m P row args w R:=fun c cs _ =>
 let ⟨v,w',hR,s⟩:=h c cs
 ⟨v,w',hR,by
  have e:Machine.fenced P (Fr ro)=Machine.fenced P Fence.wide:=by cases ro <;> rfl
  rw [e];exact stepsIn_wide.2 s⟩
theorem Dl2 {f:FuncId} {args:Array Value} {w:World} {R:Ending→World→Prop} {m:Nat} (h:Calls P f args w R):CallsIn (Fr ro) m P f args w R:=by
 have h2:CallsIn Fence.wide m P f args w R:=callsIn_wide.2 h
 cases ro with
 | none=>exact h2
 | some l=>exact CallsIn.inRound l h2
theorem Dt0 {o:Oper} {a:Act} {K:Act→World→Prop} {x:Result Next} (h:o.upon P a K Q x):o.uponIn (Fr ro) 9 P a K Q x:=by
 cases x with
 | ok nx w' =>
   cases nx <;> simp only [Oper.upon,Oper.uponIn] at h ⊢ <;>
    first
     | exact h
     | exact ⟨fun h=>(by cases h),(Dl2 h).mono (fun e w'' he=>by cases e <;> exact he)⟩
     | exact ⟨fun h=>(by cases h),Du5 h⟩
 | halt x w'=>cases x <;> simp only [Oper.upon,Oper.uponIn] at h ⊢ <;> exact h
theorem CG9 {o:Oper} {a:Act} {w:World} {K:Act→World→Prop} (hnd:notDefer o=true) (hlo:LetsOut Q→False) (h:o.wp P a w K Q∨(o.asks P a w∧LetsOut Q)):o.wpIn (Fr ro) 9 P a w K Q:=by
 rcases h with h | h
 · refine ⟨fun _ _=>trivial,?_⟩
   rw [Oper.semAt_eq _ _ _ (Ao6 hnd)];exact Dt0 h
 · exact (hlo h.2).elim
theorem BW1 (hlo:LetsOut Q→False):∀ (l:List Oper) (a:Act) (w:World),l.all notDefer=true→wpList P ops Q l a w→wpListIn (Fr ro) 9 P ops Q l a w
 | [],_,_,_,h=>h
 | o::l,a,w,hn,h=>by
   simp only [List.all_cons,Bool.and_eq_true] at hn;simp only [wpList,wpListIn] at h ⊢
   split
   · rename_i hw
     rw [if_pos hw] at h;exact CG9 hn.1 hlo (h.imp (Oper.wp_mono (fun a w h=>BW1 hlo l a w hn.2 h)) id)
   · rename_i hw
     rw [if_neg hw] at h;exact ⟨fun _ _=>trivial,BW1 hlo l _ _ hn.2 h⟩
theorem DM7 {i:Nat} {K K':Act→World→Prop} {a:Act} {w:World} (hn:noDefers ops=true) (hlo:LetsOut Q→False) (hK:∀ a w,K a w→K' a w) (h:wpOp P ops Q i K a w):wpOpIn (Fr ro) 9 P ops Q i K' a w:=by
 unfold wpOp at h;unfold wpOpIn
 cases ho:ops[i]? with
 | none=>simp only [ho] at h ⊢;exact hK _ _ h
 | some o =>
   simp only [ho] at h ⊢
   have hnd:notDefer o=true:=List.all_eq_true.1 hn o (by
    obtain ⟨h1,h2⟩:=Array.getElem?_eq_some_iff.1 ho;rw [← h2];exact Array.mem_toList_iff.2 (Array.getElem_mem h1))
   split
   · rename_i hw
     rw [if_pos hw] at h;exact CG9 hnd hlo (h.imp (Oper.wp_mono hK) id)
   · rename_i hw
     rw [if_neg hw] at h;exact ⟨fun _ _=>trivial,hK _ _ h⟩
theorem CW7 (hn:noDefers ops=true) (hlo:LetsOut Q→False):∀ (fuel:Nat) (listed:Array Bool) (a:Act) (w:World),wpAny P .any ops Q fuel listed a w→wpAnyIn (Fr ro) 9 P .any ops Q fuel listed a w
 | 0,_,_,_,h=>h
 | fuel + 1,_,_,_,h=>⟨h.1,fun i hi=>DM7 hn hlo (fun a' w' h'=>CW7 hn hlo fuel _ a' w' h') (h.2 i hi)⟩
theorem Bw3 {Q:Exit→Act→World→Prop} (h:∀ a w,Q .outgrown a w→False):LetsOut Q→False:=fun ⟨a,w,hq⟩=>h a w hq
theorem Ab6 {id:Nat} {l:List Oper} (h:RunL P l.toArray Q n l r ds W chg news) (hnd:l.all notDefer=true:=by rfl) (hlo:∀ a w,Q .outgrown a w→False:=by exact fun _ _ h=>h):RunCR ro P Q n (.region id l.toArray false) r ds W chg news:=fun a w s =>
 wpIn_region_lit (BW1 (Bw3 hlo) l a w hnd (h a w s))
theorem Bk8 {id:Nat} {l:List Oper} {news0:Blks} (k:Nat) (hm:P.follows .mixedOrders=true) (_hp:Pick news0 news) (h:RunA P l.toArray Q k (fun c=>c.map (·.1)=chg.map (·.1)) news0 n l.toArray.size (Array.replicate l.toArray.size false) r ds W chg news) (hnd:noDefers l.toArray=true:=by rfl) (hlo:∀ a w,Q .outgrown a w→False:=by exact fun _ _ h=>h):RunCR ro P Q n (.region id l.toArray true) r ds W chg news:=fun a _ s =>
 wpIn_region_any hm (CW7 hnd (Bw3 hlo) _ _ _ _ (Aj1 _ _ _ _ (h a _ s.drew Closed.start)))
theorem RunCR.scope {c:Code} (h:RunCR ro P (Exit.noGoto Q) n c r ds W chg news):RunCR ro P Q n (.scope c) r ds W chg news:=fun a w s=>AM9 (h a w s)
theorem RunCR.label {l:Nat} (h:RunE Q n .normal r ds W chg news):RunCR ro P Q n (.label l) r ds W chg news:=fun a w s=>wpIn_label (h a w s)
theorem AZ7 {c:Operand} {x y:Code} (hc:rev r c=some (.bool false)) (hf:RunCR ro P Q n y r ds W chg news):RunCR ro P Q n (.cond c x y) r ds W chg news :=
 RunCR.cond hc (fun h=>by cases h) (fun _=>hf)
theorem Cy0 {c:Code} {q:Regs} {news':Blks} (hs:Sub q r) (hn:Pick news' news) (h:RunCR ro P Q n c q ds W chg news'):RunCR ro P Q n c r ds W chg news:=fun a w s=>h a w (s.pick hs hn)
theorem RunER.rounds {body:Code} {k:Nat} (h:RunCR ro P (Exit.then (Code.roundsIn (Fr ro) 9 P body Q k) Q) n body r ds W chg news):RunE (Exit.then (Code.roundsIn (Fr ro) 9 P body Q (k + 1)) Q) n .normal r ds W chg news:=fun a w s=>h a w s
theorem Bk7 {body:Code} {q:Regs} {n0:Blks} (N:Nat) (R:Nat→Regs→Regs) (C V:Nat→Blks) (Inv:Nat→Prop) (h0:Inv 0) (hc:chg=C 0) (hs:Sub (R 0 q) r) (hn:Pick (V 0++n0) news)
  (hb:∀ k,k≤N→Inv k→RunCR ro P (Exit.then (Round n ds W C N Inv (fun k=>R k q) (fun k=>V k++n0) k) Q) n body (R k q) ds W (C k) (V k++n0)):RunCR ro P Q n (.loop body) r ds W chg news:=by
 have key:∀ (m k:Nat),N - k < m→k≤N→Inv k→∀ a w,St n (R k q) ds W (C k) (V k++n0) a w→Code.roundsIn (Fr ro) 9 P body Q m a w:=by
  intro m
  induction m with
  | zero=>intro k h;omega
  | succ m ih =>
    intro k hk hN hi a w s;rw [roundsIn_succ];refine Go.wpIn_mono (hb k hN hi a w s) ?_
    rintro e a2 w2 hq
    cases e with
    | normal =>
      obtain ⟨k',h1,h2,h3,s2⟩:=hq;exact ih k' (by omega) h2 h3 a2 w2 s2
    | exit id=>exact hq
    | goto l=>exact hq
    | ret=>exact hq
    | panic c=>exact hq
    | outgrown=>exact hq
 intro a w s;subst hc;exact wpIn_loop_rounds _ (key _ 0 (Nat.lt_succ_self _) (Nat.zero_le _) h0 a w (s.pick hs hn))
theorem Bk6 {X:Type} {body:Code} {q:Regs} (n0:Blks) (N:Nat) (R:Nat→X→Regs→Regs) (C V T:Nat→X→Blks) (Inv:Nat→X→Prop) (x0:X) (h0:Inv 0 x0) (hc:chg=C 0 x0) (hs:Sub (R 0 x0 q) r) (hn:Pick (V 0 x0++(n0++T 0 x0)) news)
  (hb:∀ k x,k≤N→Inv k x→RunCR ro P (Exit.then (RoundX n ds W C N Inv (fun k x=>R k x q) (fun k x=>V k x++(n0++T k x)) k) Q) n body (R k x q) ds W (C k x) (V k x++(n0++T k x))):RunCR ro P Q n (.loop body) r ds W chg news:=by
 have key:∀ (m k:Nat) (x:X),N - k < m→k≤N→Inv k x→∀ a w,St n (R k x q) ds W (C k x) (V k x++(n0++T k x)) a w→Code.roundsIn (Fr ro) 9 P body Q m a w:=by
  intro m
  induction m with
  | zero=>intro k x h;omega
  | succ m ih =>
    intro k x hk hN hi a w s;rw [roundsIn_succ];refine Go.wpIn_mono (hb k x hN hi a w s) ?_
    rintro e a2 w2 hq
    cases e with
    | normal =>
      obtain ⟨k',x',h1,h2,h3,s2⟩:=hq;exact ih k' x' (by omega) h2 h3 a2 w2 s2
    | exit id=>exact hq
    | goto l=>exact hq
    | ret=>exact hq
    | panic c=>exact hq
    | outgrown=>exact hq
 intro a w s;subst hc;exact wpIn_loop_rounds _ (key _ 0 x0 (Nat.lt_succ_self _) (Nat.zero_le _) h0 a w (s.pick hs hn))
end
section
variable {ro:Option Nat} {P:Program} {ops:Array Oper} {Q:Exit→Act→World→Prop} {n:Nat} {r:Regs} {ds:List Deferred} {W:World} {chg news:Blks} {rest:List Oper}
def putsR:List Nat→List Value→Regs→Regs
 | p::ps,v::vs,r=>putsR ps vs ((p,v)::r)
 | _,_,r=>r
theorem AN3:∀ (ps:List Nat) (vs:List Value) (t:Array Value) (r:Regs),(∀ p∈ps,p < t.size)→(∀ u v,rget r u=some v→t[u]? = some v) →
  (∀ u v,rget (putsR ps vs r) u=some v→((ps.zip vs).foldl (fun t (pv:Nat×Value)=>t.setIfInBounds pv.1 pv.2) t)[u]? = some v)∧((ps.zip vs).foldl (fun t (pv:Nat×Value)=>t.setIfInBounds pv.1 pv.2) t).size=t.size
 | [],vs,t,r,_,h=>by simpa [putsR] using h
 | p::ps,[],t,r,_,h=>by simpa [putsR] using h
 | p::ps,v::vs,t,r,hp,h=>by
   have h1:=AN3 ps vs (t.setIfInBounds p v) ((p,v)::r) (fun q hq=>by rw [Array.size_setIfInBounds];exact hp q (by simp [hq])) (fun u x hu=>by
    have ha:Agree { tmps:=t,defers:=[] } r:=h
    have:=ha.put (d:=p) (v:=v) (hp p (by simp)) u x hu
    simpa [Act.put] using this)
   simpa [putsR] using h1
structure InR (l:Nat) (W:World) (nm:List Nat):Prop where
 rec':∃ x,W.heap[l]? = some (.loop x)
 notin:l ∉ nm
def AsgQ {Y:Type} (n:Nat) (W:World) (V:Blks) (R:Y→Regs) (NB:Y→Blks):Exit→Act→World→Prop
 | .normal,a,w=>∃ y,St n (R y) [] W V (NB y) a w
 | _,_,_=>False
theorem BB9 {Y:Type} {R:Y→Regs} {NB:Y→Blks} {V:Blks} (y:Y) (hc:chg=V) (hs:Sub (R y) r) (hn:Pick (NB y) news):RunE (AsgQ n W V R NB) n .normal r [] W chg news:=fun _ _ s=>⟨y,by subst hc;exact s.pick hs hn⟩
def BodyX (W:World) (nv nb:List Nat) (V:Blks) (Stp:Code→Blks→Prop):Exit→Act→World→Prop
 | .normal,_,w=>∃ B,B.map (·.1)=nb∧Mem W (V++B) [] w
 | .ret,_,w=>∃ V' B,V'.map (·.1)=nv∧B.map (·.1)=nb∧Stp .ret V'∧Mem W (V'++B) [] w
 | .exit id,_,w=>∃ V' B,V'.map (·.1)=nv∧B.map (·.1)=nb∧Stp (.exit id) V'∧Mem W (V'++B) [] w
 | _,_,_=>False
theorem Aq9 {nv nb:List Nat} {V:Blks} {Stp:Code→Blks→Prop} (B:Blks) (hc:chg=V++B) (hb:B.map (·.1)=nb:=by rfl):RunE (BodyX W nv nb V Stp) n .normal r ds W chg news:=fun _ _ s=>⟨B,hb,hc ▸ s.mem.drop⟩
theorem AM5 {nv nb:List Nat} {V:Blks} {Stp:Code→Blks→Prop} (V' B:Blks) (hs:Stp .ret V') (hc:chg=V'++B) (hv:V'.map (·.1)=nv:=by rfl) (hb:B.map (·.1)=nb:=by rfl):RunE (BodyX W nv nb V Stp) n .ret r ds W chg news:=fun _ _ s=>⟨V',B,hv,hb,hs,hc ▸ s.mem.drop⟩
theorem Bk5 {id:Nat} {nv nb:List Nat} {V:Blks} {Stp:Code→Blks→Prop} (V' B:Blks) (hs:Stp (.exit id) V') (hc:chg=V'++B) (hv:V'.map (·.1)=nv:=by rfl) (hb:B.map (·.1)=nb:=by rfl):RunE (BodyX W nv nb V Stp) n (.exit id) r ds W chg news:=fun _ _ s=>⟨V',B,hv,hb,hs,hc ▸ s.mem.drop⟩
def BodyI (I:Prop) (Q:Exit→Act→World→Prop):Exit→Act→World→Prop
 | .normal,a,w=>I∧Q .normal a w
 | e,a,w=>Q e a w
theorem Bs5 {I:Prop} (hi:I) (h:RunE Q n .normal r ds W chg news):RunE (BodyI I Q) n .normal r ds W chg news:=fun a w s=>⟨hi,h a w s⟩
theorem AM6 {I:Prop} (h:RunE Q n .ret r ds W chg news):RunE (BodyI I Q) n .ret r ds W chg news:=h
theorem RunCR.bodyT {ro:Option Nat} {c:Code} (h:RunCR ro P Q n c r ds W chg news):RunCR ro P (BodyI True Q) n c r ds W chg news:=fun a w s =>
 Go.wpIn_mono (h a w s) (fun e a2 w2 hq=>by
  cases e with
  | normal=>exact ⟨trivial,hq⟩
  | _=>exact hq)
theorem Mem.roundN {w w':World} {V V' n0 B:Blks} (h:Mem W chg (V++n0) w) (h':Mem w (V'++B) [] w') (hm:V'.map (·.1)=V.map (·.1)) (hB:∀ b∈B.map (·.1),W.heap.size≤b∧∀ o,(b,o) ∉ chg++(V++n0)):Mem W chg (V'++n0) w':=by
 have hV:∀ b,(∃ o,(b,o)∈V') ↔ ∃ o,(b,o)∈V:=fun b=>by rw [← Ac7,← Ac7,hm]
 have hge:∀ b o,(b,o)∈V'→W.heap.size≤b:=fun b o hb=>by
  obtain ⟨o2,h2⟩:=(hV b).1 ⟨o,hb⟩;exact (h.newd b o2 (List.mem_append.2 (.inl h2))).1
 have hnd:=h.once;have hout:∀ b o,(b,o)∈B→W.heap.size≤b∧∀ o,(b,o) ∉ chg++(V++n0):=fun b o hb=>hB b (Ac7.2 ⟨o,hb⟩)
 refine ⟨h'.os.trans h.os,h'.tape.trans h.tape,h'.output.trans h.output,Nat.le_trans h.size h'.size,fun k hk hc=>?_,fun b o hb=>?_,fun b o hb=>?_,?_⟩
 · rw [h'.old k (Nat.lt_of_lt_of_le hk h.size) (fun o ho=>by
    rcases List.mem_append.1 ho with ho | ho
    · have:=hge k o ho;omega
    · have:=(hout k o ho).1;omega)]
   exact h.old k hk hc
 · have h1:=h.chgd b o hb
   refine ⟨h1.1,?_⟩
   rw [h'.old b (h.lt_new (List.mem_append.2 (.inl hb))) (fun o2 ho=>?_)]
   · exact h1.2
   · rcases List.mem_append.1 ho with ho | ho
     · have:=hge b o2 ho;omega
     · exact (hout b o2 ho).2 o (List.mem_append.2 (.inl hb))
 · rcases List.mem_append.1 hb with hb | hb
   · exact ⟨hge b o hb,h'.at (by simp [hb])⟩
   · have h1:=h.newd b o (List.mem_append.2 (.inr hb))
     refine ⟨h1.1,?_⟩
     rw [h'.old b (h.lt_new (List.mem_append.2 (.inr (List.mem_append.2 (.inr hb))))) (fun o2 ho=>?_)]
     · exact h1.2
     · rcases List.mem_append.1 ho with ho | ho
       · obtain ⟨o3,h3⟩:=(hV b).1 ⟨o2,ho⟩
         rw [List.map_append,List.map_append,List.nodup_append] at hnd;have h4:=(List.nodup_append.1 hnd.2.1).2.2 b (Ac7.2 ⟨o3,h3⟩) b (Ac7.2 ⟨o,hb⟩);exact h4 rfl
       · exact (hout b o2 ho).2 o (List.mem_append.2 (.inr (List.mem_append.2 (.inr hb))))
 · have e:(chg++(V'++n0)).map (·.1)=(chg++(V++n0)).map (·.1):=by simp [List.map_append,hm]
   rw [e];exact hnd
structure Held (n B:Nat) (r:Regs) (NB:Blks) (a:Act) (w:World):Prop where
 size:a.tmps.size=n
 agree:Agree a r
 defers:a.defers=[]
 held:∀ b o,(b,o)∈NB→B≤b∧w.heap[b]? = some o
 once:(NB.map (·.1)).Nodup
structure RangeOk {α Y:Type} (P:Program) (n N:Nat) (r:Regs) (W:World) (chg n0:Blks) (ps:List Nat) (assign body:Code) (enc:α→List Value) (V:List α→Blks) (RY:α→Y→Regs) (NB:α→Y→Blks) (Stp:Code→List α→Blks→Prop) (Iv:List α→Prop):Prop where
 iv0:Iv []
 names:∀ pre,(V pre).map (·.1)=(V []).map (·.1)
 cellsN:∀ x y b o,(b,o)∈NB x y→o.isCells=true
 lens:∀ x,(enc x).length=ps.length
 inps:∀ p∈ps,p < n
 asg:∀ l pre x W1,Mem W chg (V pre++n0) W1→RunCR (some l) P (AsgQ n W1 (V pre) (RY x) (NB x)) n assign (putsR ps (enc x) r) [] W1 (V pre) []
 body:∀ l pre x y W1,pre.length < N→Iv pre→Mem W chg (V pre++n0) W1→InR l W1 ((V pre++NB x y).map (·.1))→(∀ b,(∃ o,(b,o)∈chg++n0)∨b < W.heap.size→b ∉ (V pre++NB x y).map (·.1))→RunCR (some l) P (BodyI (Iv (pre++[x])) (BodyX W1 ((V []).map (·.1)) ((NB x y).map (·.1)) (V (pre++[x])) (fun c V'=>Stp c (pre++[x]) V'))) n body (RY x y) [] W1 (V pre++NB x y) []
variable {α Y:Type} {N:Nat} {n0:Blks} {ps:List Nat} {assign body:Code} {enc:α→List Value} {V:List α→Blks} {RY:α→Y→Regs} {NB:α→Y→Blks} {Stp:Code→List α→Blks→Prop} {Iv:List α→Prop}
theorem RangeOk.lt (H:RangeOk P n N r W chg n0 ps assign body enc V RY NB Stp Iv) {w:World} (s0:Mem W chg (V []++n0) w):∀ pre b o,(b,o)∈chg++(V pre++n0)→b < w.heap.size:=fun pre b o hb=>by
 rcases List.mem_append.1 hb with hb | hb
 · exact s0.lt_new (List.mem_append.2 (.inl hb))
 · rcases List.mem_append.1 hb with hb | hb
   · have:b∈(V pre).map (·.1):=Ac7.2 ⟨o,hb⟩
     rw [H.names pre] at this;obtain ⟨o2,h2⟩:=Ac7.1 this;exact s0.lt_new (List.mem_append.2 (.inr (List.mem_append.2 (.inl h2))))
   · exact s0.lt_new (List.mem_append.2 (.inr (List.mem_append.2 (.inr hb))))
def RI (W:World) (chg n0:Blks) (V:List α→Blks) (B:Nat) (pre:List α) (W':World):Prop:=Mem W chg (V pre++n0) W'∧B≤W'.heap.size
def RIx (W:World) (chg n0:Blks) (nv:List Nat) (Stp:Code→List α→Blks→Prop) (B:Nat) (c:Code) (pre:List α) (W':World):Prop:=∃ V',V'.map (·.1)=nv∧Stp c pre V'∧Mem W chg (V'++n0) W'∧B≤W'.heap.size
def RJ (W:World) (chg n0:Blks) (V:List α→Blks) (Iv:List α→Prop) (B:Nat) (pre:List α) (W':World):Prop:=RI W chg n0 V B pre W'∧Iv pre
theorem RangeOk.own (H:RangeOk P n N r W chg n0 ps assign body enc V RY NB Stp Iv) {w:World} (s0:Mem W chg (V []++n0) w):OwnFrom w.heap.size (RI W chg n0 V w.heap.size):=fun pre _ _ _ hI hgr hr =>
 ⟨hI.1.turned hgr (fun k e=>(hr k e).1) (H.lt s0 pre) s0.size,Nat.le_trans hI.2 hgr.size⟩
theorem RangeOk.ownJ (H:RangeOk P n N r W chg n0 ps assign body enc V RY NB Stp Iv) {w:World} (s0:Mem W chg (V []++n0) w):OwnFrom w.heap.size (RJ W chg n0 V Iv w.heap.size):=fun pre _ _ _ hI hgr hr=>⟨H.own s0 pre _ _ _ hI.1 hgr hr,hI.2⟩
theorem RangeOk.ownX (H:RangeOk P n N r W chg n0 ps assign body enc V RY NB Stp Iv) {w:World} (s0:Mem W chg (V []++n0) w) (c:Code):OwnFrom w.heap.size (RIx W chg n0 ((V []).map (·.1)) Stp w.heap.size c):=fun pre _ _ _ hI hgr hr=>by
 obtain ⟨V',h1,h2,h3,h4⟩:=hI;refine ⟨V',h1,h2,h3.turned hgr (fun k e=>(hr k e).1) (fun b o hb=>?_) s0.size,Nat.le_trans h4 hgr.size⟩
 rcases List.mem_append.1 hb with hb | hb
 · exact H.lt s0 [] b o (List.mem_append.2 (.inl hb))
 · rcases List.mem_append.1 hb with hb | hb
   · have:b∈V'.map (·.1):=Ac7.2 ⟨o,hb⟩
     rw [h1] at this;obtain ⟨o2,h2⟩:=Ac7.1 this;exact H.lt s0 [] b o2 (List.mem_append.2 (.inr (List.mem_append.2 (.inl h2))))
   · exact H.lt s0 [] b o (List.mem_append.2 (.inr (List.mem_append.2 (.inr hb))))
theorem RangeOk.ownA (H:RangeOk P n N r W chg n0 ps assign body enc V RY NB Stp Iv) {B:Nat} (x:α) (a':Act):OwnFrom B (fun (_:Unit) W'=>∃ y,Held n B (RY x y) (NB x y) a' W'):=fun _ A C row hI hgr hr=>by
 obtain ⟨y,h⟩:=hI;refine ⟨y,h.size,h.agree,h.defers,fun b o hb=>?_,h.once⟩
 obtain ⟨h1,h2⟩:=h.held b o hb;refine ⟨h1,?_⟩
 rw [hgr.block b (Array.getElem?_eq_some_iff.1 h2).1 (fun e=>?_)]
 · exact h2
 · obtain ⟨_,o2,h3,h4⟩:=hr b e.symm
   rw [h2] at h3
   cases h3
   rw [H.cellsN x y b o hb] at h4
   cases h4
theorem AQ5 {w w':World} {B:Nat} {V:Blks} (h:Mem w V [] w') (hv:∀ b o,(b,o)∈V→b < B∨∃ o',w.heap[b]? = some o'∧o'.isCells=true):KeepsFrom B w w' :=
 ⟨h.size,fun k o hB hk ho=>by
  rw [h.old k (Array.getElem?_eq_some_iff.1 hk).1 (fun o2 ho2=>?_)]
  · exact hk
  · rcases hv k o2 ho2 with h1 | ⟨o3,h3,h4⟩
    · omega
    · rw [hk] at h3;cases h3;rw [ho] at h4;cases h4⟩
theorem RangeOk.asgW (H:RangeOk P n N r W chg n0 ps assign body enc V RY NB Stp Iv) {a:Act} {w:World} (s:St n r ds W chg (V []++n0) a w) (l:Nat) (pre:List α) (x:α) (W1:World) (K:Act→World→Prop) (hI:RI W chg n0 V w.heap.size pre W1)
  (hK:∀ a' W',KeepsFrom w.heap.size W1 W'→KpX w.heap.size ((V []).map (·.1)) W1 W'→RI W chg n0 V w.heap.size pre W'→(∃ y,Held n w.heap.size (RY x y) (NB x y) a' W')→K a' W') :
  assign.wpIn ((Fr none).inRound l) 7 P (Exit.then K (fun _ _ _=>False)) { tmps:=(ps.toArray.zip (enc x).toArray).foldl (fun t (p,v)=>t.setIfInBounds p v) a.tmps,defers:=[] } W1:=by
 have hp:=AN3 ps (enc x) a.tmps r (fun p hp=>by rw [s.size];exact H.inps p hp) (fun u v hu=>s.agree u v hu)
 have e:(ps.toArray.zip (enc x).toArray).foldl (fun t (pv:Nat×Value)=>t.setIfInBounds pv.1 pv.2) a.tmps=(ps.zip (enc x)).foldl (fun t (pv:Nat×Value)=>t.setIfInBounds pv.1 pv.2) a.tmps:=by
  rw [← Array.foldl_toList,Array.toList_zip]
 have hst:Mem W1 (V pre) [] W1:=⟨rfl,rfl,rfl,Nat.le_refl _,fun _ _ _=>rfl,fun b o hb=>⟨hI.1.lt_new (List.mem_append.2 (.inr (List.mem_append.2 (.inl hb)))),(hI.1.newd b o (List.mem_append.2 (.inl hb))).2⟩,fun _ _ hb=>(by cases hb),by
  have:=hI.1.once
  rw [List.map_append,List.map_append,List.nodup_append] at this;simpa using (List.nodup_append.1 this.2.1).1⟩
 have hr:=H.asg l pre x W1 hI.1 { tmps:=(ps.zip (enc x)).foldl (fun t (pv:Nat×Value)=>t.setIfInBounds pv.1 pv.2) a.tmps,defers:=[] } W1 ⟨by rw [hp.2];exact s.size,fun u v hu=>hp.1 u v hu,rfl,hst⟩
 show assign.wpIn (Fr (some l)) 7 P _ { tmps:=(ps.toArray.zip (enc x).toArray).foldl (fun t (pv:Nat×Value)=>t.setIfInBounds pv.1 pv.2) a.tmps,defers:=[] } W1
 rw [e];refine Go.wpIn_mono (Ay3 hr) ?_;intro e a2 w2 hq
 cases e with
 | normal =>
   obtain ⟨y,s2⟩:=hq;have hlt:∀ b o,(b,o)∈V pre→b < w.heap.size:=fun b o hb=>H.lt s.mem pre b o (List.mem_append.2 (.inr (List.mem_append.2 (.inl hb))))
   refine hK a2 w2 (AQ5 s2.mem.drop (fun b o hb=>.inl (hlt b o hb))) (fun k hk hne=>s2.mem.old k (Nat.lt_of_lt_of_le hk hI.2) (fun o ho=>hne (by rw [← H.names pre];exact Ac7.2 ⟨o,ho⟩))) ⟨?_,Nat.le_trans hI.2 s2.mem.size⟩ ⟨y,s2.size,s2.agree,s2.defers,fun b o hb=>?_,?_⟩
   · have h2:=Mem.round hI.1 s2.mem.drop rfl
     exact h2
   · have:=s2.mem.newd b o hb
     exact ⟨Nat.le_trans hI.2 this.1,this.2⟩
   · have:=s2.mem.once
     rw [List.map_append,List.nodup_append] at this;exact this.2.1
 | exit id=>exact hq.elim
 | goto l=>exact hq.elim
 | ret=>exact hq.elim
 | panic c=>exact hq.elim
 | outgrown=>exact hq.elim
theorem RangeOk.round (H:RangeOk P n N r W chg n0 ps assign body enc V RY NB Stp Iv) {a:Act} {w:World} (s:St n r ds W chg (V []++n0) a w) (l:Nat) (pre:List α) (x:α) (a':Act) (W1:World) (hl:w.heap.size≤l) (hrec:∃ x,W1.heap[l]? = some (.loop x))
  (hI:RI W chg n0 V w.heap.size pre W1) (hA:∃ y,Held n w.heap.size (RY x y) (NB x y) a' W1) (hlen:pre.length < N) (hiv:Iv pre) :
  body.wpIn ((Fr none).inRound l) 7 P (ownPostG w.heap.size (KpX w.heap.size ((V []).map (·.1))) (RJ W chg n0 V Iv w.heap.size) (RIx W chg n0 ((V []).map (·.1)) Stp w.heap.size) (pre++[x]) W1) a' W1:=by
 obtain ⟨y,hh⟩:=hA;have hlt:∀ b o,(b,o)∈chg++(V pre++n0)→b < w.heap.size:=H.lt s.mem pre;have hVlt:∀ b o,(b,o)∈V pre→b < w.heap.size:=fun b o hb=>hlt b o (List.mem_append.2 (.inr (List.mem_append.2 (.inl hb))))
 have hV':∀ (V':Blks),V'.map (·.1)=(V []).map (·.1)→∀ b o,(b,o)∈V'→b < w.heap.size:=fun V' hv b o hb=>by
  have:b∈V'.map (·.1):=Ac7.2 ⟨o,hb⟩
  rw [hv,← H.names pre] at this;obtain ⟨o2,h2⟩:=Ac7.1 this;exact hVlt b o2 h2
 have hB':∀ (B:Blks),B.map (·.1)=(NB x y).map (·.1)→∀ b o,(b,o)∈B→w.heap.size≤b∧∃ o',W1.heap[b]? = some o'∧o'.isCells=true:=fun B hb b o h=>by
  have:b∈B.map (·.1):=Ac7.2 ⟨o,h⟩
  rw [hb] at this;obtain ⟨o2,h2⟩:=Ac7.1 this;obtain ⟨h3,h4⟩:=hh.held b o2 h2;exact ⟨h3,o2,h4,H.cellsN x y b o2 h2⟩
 have hst:Mem W1 (V pre++NB x y) [] W1:=⟨rfl,rfl,rfl,Nat.le_refl _,fun _ _ _=>rfl,fun b o hb=>by
   rcases List.mem_append.1 hb with hb | hb
   · exact ⟨hI.1.lt_new (List.mem_append.2 (.inr (List.mem_append.2 (.inl hb)))),(hI.1.newd b o (List.mem_append.2 (.inl hb))).2⟩
   · have h1:=(hh.held b o hb).2
     exact ⟨(Array.getElem?_eq_some_iff.1 h1).1,h1⟩,fun _ _ hb=>(by cases hb),by
   have h1:=hI.1.once;rw [List.map_append,List.map_append,List.nodup_append] at h1;rw [List.append_nil,List.map_append,List.nodup_append];refine ⟨(List.nodup_append.1 h1.2.1).1,hh.once,fun b hb c hc e=>?_⟩
   subst e;obtain ⟨o,ho⟩:=Ac7.1 hb;obtain ⟨o2,ho2⟩:=Ac7.1 hc
   have:=hVlt b o ho
   have:=(hh.held b o2 ho2).1
   omega⟩
 have hInR:InR l W1 ((V pre++NB x y).map (·.1)):=⟨hrec,fun hc=>by
  obtain ⟨o,ho⟩:=Ac7.1 hc
  rcases List.mem_append.1 ho with ho | ho
  · have:=hVlt l o ho;omega
  · obtain ⟨q,hq⟩:=hrec
    have h1:=(hh.held l o ho).2;rw [hq] at h1
    cases h1
    have:=H.cellsN x y l _ ho
    cases this⟩
 have hAp:∀ b,(∃ o,(b,o)∈chg++n0)∨b < W.heap.size→b ∉ (V pre++NB x y).map (·.1):=fun b hb hc=>by
  obtain ⟨o,ho⟩:=Ac7.1 hc;have hnd:=hI.1.once
  rcases List.mem_append.1 ho with ho | ho
  · rcases hb with ⟨o2,hb⟩ | hb
    · rw [List.map_append,List.map_append,List.nodup_append] at hnd
      rcases List.mem_append.1 hb with hb | hb
      · exact hnd.2.2 b (Ac7.2 ⟨o2,hb⟩) b (List.mem_append.2 (.inl (Ac7.2 ⟨o,ho⟩))) rfl
      · exact (List.nodup_append.1 hnd.2.1).2.2 b (Ac7.2 ⟨o,ho⟩) b (Ac7.2 ⟨o2,hb⟩) rfl
    · have:=(hI.1.newd b o (List.mem_append.2 (.inl ho))).1
      omega
  · have h1:=(hh.held b o ho).1
    rcases hb with ⟨o2,hb⟩ | hb
    · have:b < w.heap.size:=by
       rcases List.mem_append.1 hb with hb | hb
       · exact hlt b o2 (List.mem_append.2 (.inl hb))
       · exact hlt b o2 (List.mem_append.2 (.inr (List.mem_append.2 (.inr hb))))
      omega
    · have:=s.mem.size
      omega
 have hr:=H.body l pre x y W1 hlen hiv hI.1 hInR hAp a' W1 ⟨hh.size,hh.agree,hh.defers,hst⟩
 show body.wpIn (Fr (some l)) 7 P _ a' W1
 have hBout:∀ (B:Blks),B.map (·.1)=(NB x y).map (·.1)→∀ b∈B.map (·.1),W.heap.size≤b∧∀ o,(b,o) ∉ chg++(V pre++n0):=fun B hb b hbm=>by
  obtain ⟨o,ho⟩:=Ac7.1 hbm;have h1:=(hB' B hb b o ho).1;exact ⟨Nat.le_trans s.mem.size h1,fun o2 h2=>by have:=hlt b o2 h2;omega⟩
 have hkf:∀ (V' B:Blks) (w2:World),V'.map (·.1)=(V []).map (·.1)→B.map (·.1)=(NB x y).map (·.1)→Mem W1 (V'++B) [] w2→KeepsFrom w.heap.size W1 w2:=fun V' B w2 hv hb hm =>
  AQ5 hm (fun b o ho=>by
   rcases List.mem_append.1 ho with ho | ho
   · exact .inl (hV' V' hv b o ho)
   · exact .inr (hB' B hb b o ho).2)
 refine Go.wpIn_mono (Ay3 hr) ?_;intro e a2 w2 hq
 cases e with
 | normal =>
   obtain ⟨hiv2,B,hb,hm⟩:=hq;refine ⟨hkf _ B w2 (H.names _) hb hm,fun k hk hne=>hm.old k (Nat.lt_of_lt_of_le hk hI.2) (fun o ho=>?_),⟨hI.1.roundN hm (by rw [H.names,H.names pre]) (hBout B hb),Nat.le_trans hI.2 hm.size⟩,hiv2⟩
   rcases List.mem_append.1 ho with ho | ho
   · exact hne (by rw [← H.names (pre++[x])];exact Ac7.2 ⟨o,ho⟩)
   · have:=(hB' B hb k o ho).1;omega
 | exit id =>
   obtain ⟨V',B,hv,hb,hst2,hm⟩:=hq;exact ⟨hkf V' B w2 hv hb hm,V',hv,hst2,hI.1.roundN hm (by rw [hv,H.names pre]) (hBout B hb),Nat.le_trans hI.2 hm.size⟩
 | ret =>
   obtain ⟨V',B,hv,hb,hst2,hm⟩:=hq;exact ⟨hkf V' B w2 hv hb hm,V',hv,hst2,hI.1.roundN hm (by rw [hv,H.names pre]) (hBout B hb),Nat.le_trans hI.2 hm.size⟩
 | goto l=>exact hq.elim
 | panic c=>exact hq.elim
 | outgrown=>exact hq.elim
theorem CK7 {B:Nat} {nm:List Nat} {A C D:World} (h1:KpX B nm A C) (h2:KpX B nm C D):KpX B nm A D:=fun k hk hne=>(h2 k hk hne).trans (h1 k hk hne)
theorem Dw6 {B:Nat} {nm:List Nat} (A:World) (l:Nat) (o':Obj) (h:B≤l):KpX B nm A (A.putObj l o'):=fun k hk _=>World.putObj_heap_other (by omega)
theorem AY7 {g:Operand} {gf:Nat} {lb:Array Value} {S Sp:List α→Prop} (H:RangeOk P n N r W chg n0 ps assign body enc V RY NB Stp Iv)
  (hg:rev r g=some (.func (.func gf) #[] lb)) (he:Enters P gf) (hn:Pick (V []++n0) news)
  (hseq:∀ w,Mem W chg (V []++n0) w→SeqStopsK (Fr none) 8 P gf lb (fun x=>(enc x).toArray) (KpX w.heap.size ((V []).map (·.1))) S Sp N w)
  (h:∀ xs D,S xs→Iv xs→RunE Q n .normal r ({ target:=.collected D,args:=#[] }::ds) W chg ((D,.deferred (some []))::(V xs++n0)))
  (h2:∀ c pre V' D,Sp pre→V'.map (·.1)=(V []).map (·.1)→Stp c pre V'→RunC P Q n c r ({ target:=.collected D,args:=#[] }::ds) W chg ((D,.deferred (some []))::(V'++n0))) :
  RunC P Q n (.rangeFunc g ps.toArray assign body) r ds W chg news:=fun a w s=>by
 have s':St n r ds W chg (V []++n0) a w:=⟨s.size,s.agree,s.defers,s.mem.pick hn⟩
 have mark:∀ (V':Blks) (D:Nat) (W':World),V'.map (·.1)=(V []).map (·.1)→w.heap.size≤D→Mem W chg (V'++n0) W'→W'.heap[D]? = some (.deferred (some []))→Mem W chg ((D,.deferred (some []))::(V'++n0)) W':=fun V' D W' hv hD hI hK=>by
  have hlt:∀ b o,(b,o)∈chg++(V'++n0)→b < w.heap.size:=fun b o hb=>by
   rcases List.mem_append.1 hb with hb | hb
   · exact H.lt s'.mem [] b o (List.mem_append.2 (.inl hb))
   · rcases List.mem_append.1 hb with hb | hb
     · have:b∈V'.map (·.1):=Ac7.2 ⟨o,hb⟩
       rw [hv] at this;obtain ⟨o2,h2⟩:=Ac7.1 this;exact H.lt s'.mem [] b o2 (List.mem_append.2 (.inr (List.mem_append.2 (.inl h2))))
     · exact H.lt s'.mem [] b o (List.mem_append.2 (.inr (List.mem_append.2 (.inr hb))))
  refine { hI with newd:=fun b o hb=>?_,once:=?_ }
  · rcases List.mem_cons.1 hb with hb | hb
    · cases hb;exact ⟨Nat.le_trans s'.mem.size hD,hK⟩
    · exact hI.newd b o hb
  · have hnd:=hI.once
    rw [List.map_append,List.nodup_append] at hnd ⊢;refine ⟨hnd.1,?_,?_⟩
    · rw [List.map_cons,List.nodup_cons]
      refine ⟨fun hm=>?_,hnd.2.1⟩
      obtain ⟨o,ho⟩:=Ac7.1 hm
      have:=hlt D o (List.mem_append.2 (.inr ho))
      omega
    · intro b hb c hc
      rw [List.map_cons,List.mem_cons] at hc
      rcases hc with rfl | hc
      · obtain ⟨o,ho⟩:=Ac7.1 hb
        have:=hlt b o (List.mem_append.2 (.inl ho))
        intro e;subst e;omega
      · exact hnd.2.2 b hb c hc
 refine (wpIn_wide (n:=9)).1 ?_
 show Code.wpIn (Fr none) 9 P _ Q a w
 exact wpIn_rangeFunc_ownH (F:=Fr none) (n:=9) rfl (by decide) (s.agree.eval hg) trivial he (hseq w s'.mem) CK7 (fun A l o o' hl _ _ _=>Dw6 A l o' hl) (Below.refl _ w) (fun x=>by simp [H.lens x])
  (RJ W chg n0 V Iv w.heap.size) (RIx W chg n0 ((V []).map (fun x:Nat×Obj=>x.1)) Stp w.heap.size) (H.ownJ s'.mem) (H.ownX s'.mem) ⟨⟨s'.mem,Nat.le_refl _⟩,H.iv0⟩ (fun x a' W'=>∃ y,Held n w.heap.size (RY x y) (NB x y) a' W') (fun x a'=>H.ownA x a')
  (fun l pre x W1 K hI hK=>H.asgW s' l pre x W1 K hI.1 (fun a' W' h1 h2 h3 h4=>hK a' W' h1 h2 ⟨h3,hI.2⟩ h4)) (fun l pre x a' W1 hl hrec hI hA hlen=>H.round s' l pre x a' W1 hl hrec hI.1 hA hlen hI.2)
  (fun D xs W' hD hS hI hK=>h xs D hS hI.2 _ W' ⟨s.size,s.agree,by rw [← s.defers],mark _ D W' (H.names xs) hD hI.1.1 hK⟩)
  (fun D c pre W' hD hSp hI hK=>by
   obtain ⟨V',hv,hst,hm,_⟩:=hI;exact (wpIn_wide (n:=9)).2 (h2 c pre V' D hSp hv hst _ W' ⟨s.size,s.agree,by rw [← s.defers],mark V' D W' hv hD hm hK⟩))
theorem Cd5 {α Y:Type} {g:Operand} {gf:Nat} {lb:Array Value} {S Sp:List α→Prop} {ps:List Nat} {assign body:Code} {q:Regs} {N:Nat} (n0:Blks) (enc:α→List Value) (V:List α→Blks) (RY:α→Y→Regs→Regs) (NB:α→Y→Blks) (Stp:Code→List α→Blks→Prop)
  (_hs:Sub q r) (hn:Pick (V []++n0) news) (hnm:∀ pre,(V pre).map (·.1)=(V []).map (·.1)) (_hcl:∀ pre b o,(b,o)∈V pre→o.isCells=true) (hcn:∀ x y b o,(b,o)∈NB x y→o.isCells=true)
  (hlen:∀ x,(enc x).length=ps.length) (hin:(ps.all fun p=>Nat.ble (p + 1) n)=true) (hg:rev r g=some (.func (.func gf) #[] lb)) (he:Enters P gf)
  (hseq:∀ w,Mem W chg (V []++n0) w→SeqStopsK (Fr none) 8 P gf lb (fun x=>(enc x).toArray) (KpX w.heap.size ((V []).map (·.1))) S Sp N w)
  (hasg:∀ l pre x W1,Mem W chg (V pre++n0) W1→RunCR (some l) P (AsgQ n W1 (V pre) (fun y=>RY x y q) (NB x)) n assign (putsR ps (enc x) r) [] W1 (V pre) [])
  (hbody:∀ l pre x y W1,pre.length < N→Mem W chg (V pre++n0) W1→InR l W1 ((V pre++NB x y).map (·.1))→(∀ b,(∃ o,(b,o)∈chg++n0)∨b < W.heap.size→b ∉ (V pre++NB x y).map (·.1)) →
   RunCR (some l) P (BodyX W1 ((V []).map (·.1)) ((NB x y).map (·.1)) (V (pre++[x])) (fun c V'=>Stp c (pre++[x]) V')) n body (RY x y q) [] W1 (V pre++NB x y) [])
  (h:∀ xs D,S xs→RunE Q n .normal r ({ target:=.collected D,args:=#[] }::ds) W chg ((D,.deferred (some []))::(V xs++n0)))
  (h2:∀ c pre V' D,Sp pre→V'.map (·.1)=(V []).map (·.1)→Stp c pre V'→RunC P Q n c r ({ target:=.collected D,args:=#[] }::ds) W chg ((D,.deferred (some []))::(V'++n0))) :
  RunC P Q n (.rangeFunc g ps.toArray assign body) r ds W chg news :=
 AY7 (RY:=fun x y=>RY x y q) (Iv:=fun _=>True) ⟨trivial,hnm,hcn,hlen,fun p hp=>Nat.le_of_ble_eq_true (List.all_eq_true.1 hin p hp),hasg,fun l pre x y W1 h1 _ h2 h3 h4=>(hbody l pre x y W1 h1 h2 h3 h4).bodyT⟩ hg he hn hseq (fun xs D hS _=>h xs D hS) h2
theorem AY6 {α Y:Type} {g:Operand} {gf:Nat} {lb:Array Value} {S Sp:List α→Prop} {ps:List Nat} {assign body:Code} {q:Regs} {N:Nat} (n0:Blks) (enc:α→List Value) (V:List α→Blks) (RY:α→Y→Regs→Regs) (NB:α→Y→Blks) (Stp:Code→List α→Blks→Prop) (Iv:List α→Prop) (iv0:Iv [])
  (_hs:Sub q r) (hn:Pick (V []++n0) news) (hnm:∀ pre,(V pre).map (·.1)=(V []).map (·.1)) (_hcl:∀ pre b o,(b,o)∈V pre→o.isCells=true) (hcn:∀ x y b o,(b,o)∈NB x y→o.isCells=true)
  (hlen:∀ x,(enc x).length=ps.length) (hin:(ps.all fun p=>Nat.ble (p + 1) n)=true) (hg:rev r g=some (.func (.func gf) #[] lb)) (he:Enters P gf)
  (hseq:∀ w,Mem W chg (V []++n0) w→SeqStopsK (Fr none) 8 P gf lb (fun x=>(enc x).toArray) (KpX w.heap.size ((V []).map (·.1))) S Sp N w)
  (hasg:∀ l pre x W1,Mem W chg (V pre++n0) W1→RunCR (some l) P (AsgQ n W1 (V pre) (fun y=>RY x y q) (NB x)) n assign (putsR ps (enc x) r) [] W1 (V pre) [])
  (hbody:∀ l pre x y W1,pre.length < N→Iv pre→Mem W chg (V pre++n0) W1→InR l W1 ((V pre++NB x y).map (·.1))→(∀ b,(∃ o,(b,o)∈chg++n0)∨b < W.heap.size→b ∉ (V pre++NB x y).map (·.1)) →
   RunCR (some l) P (BodyI (Iv (pre++[x])) (BodyX W1 ((V []).map (·.1)) ((NB x y).map (·.1)) (V (pre++[x])) (fun c V'=>Stp c (pre++[x]) V'))) n body (RY x y q) [] W1 (V pre++NB x y) [])
  (h:∀ xs D,S xs→Iv xs→RunE Q n .normal r ({ target:=.collected D,args:=#[] }::ds) W chg ((D,.deferred (some []))::(V xs++n0)))
  (h2:∀ c pre V' D,Sp pre→V'.map (·.1)=(V []).map (·.1)→Stp c pre V'→RunC P Q n c r ({ target:=.collected D,args:=#[] }::ds) W chg ((D,.deferred (some []))::(V'++n0))) :
  RunC P Q n (.rangeFunc g ps.toArray assign body) r ds W chg news :=
 AY7 (RY:=fun x y=>RY x y q) (Iv:=Iv) ⟨iv0,hnm,hcn,hlen,fun p hp=>Nat.le_of_ble_eq_true (List.all_eq_true.1 hin p hp),hasg,hbody⟩ hg he hn hseq h h2
theorem Mem.flat {w W1:World} {n1 c1 nw:Blks} (hI:Mem W [] n1 W1) (hm:Mem W1 c1 nw w) (hc:∀ b,b < W.heap.size→b ∉ c1.map (·.1)):Mem W [] [] w :=
 ⟨hm.os.trans hI.os,hm.tape.trans hI.tape,hm.output.trans hI.output,Nat.le_trans hI.size hm.size,fun k hk _=>(hm.old k (Nat.lt_of_lt_of_le hk hI.size) (fun o ho=>hc k hk (Ac7.2 ⟨o,ho⟩))).trans (hI.old k hk (by simp)),fun _ _ h=>(by cases h),fun _ _ h=>(by cases h),by simp⟩
def markD (D:Nat):Deferred:={ target:=.collected D,args:=#[] }
def markB (D:Nat):Nat×Obj:=(D,.deferred (some []))
theorem AQ3 {fn:Func} {R:Ending→World→Prop} {tl:List Deferred} {t:Array Value} {news2:Blks} (hend:∀ w,Mem W chg news2 w→LeavesInM Fence.wide 9 P fn t R tl .returning w):∀ (Ds:List Nat) (w:World),Mem W chg (Ds.map markB++news2) w→LeavesInM Fence.wide 9 P fn t R (Ds.map markD++tl) .returning w
 | [],w,hm=>hend w hm
 | D::Ds,w,hm=>⟨by simp,.inl ⟨D,_,rfl,run_takeDeferred (hm.newd D _ (List.mem_cons_self ..)).2,AQ3 hend Ds _ (hm.putNew _)⟩⟩
theorem Ct2 {fn:Func} {R:Ending→World→Prop} {news2:Blks} {v:Value} {a:Act} (hag:Agree a r) (hv:ResVs P r (chg++news2) fn v) (hR:∀ w,Mem W chg news2 w→R (.returned v) w):∀ w,Mem W chg news2 w→LeavesInM Fence.wide 9 P fn a.tmps R [] .returning w:=fun w hm =>
 ⟨v,hv.run hag (fun _ _ h=>hm.at h),hR w hm⟩
theorem Ap4 {fn:Func} {R:Ending→World→Prop} {v:Value} {news2:Blks} (Ds:List Nat) (hp:Pick (Ds.map markB++news2) news) (hv:ResVs P r (chg++news2) fn v) (hR:∀ w,Mem W chg news2 w→R (.returned v) w) :
  RunE (bodyPostM Fence.wide 9 P fn R) n .ret r (Ds.map markD++[]) W chg news:=fun a w s=>by
 show LeavesInM _ _ _ _ _ _ a.defers _ w
 rw [s.defers];exact AQ3 (Ct2 s.agree hv hR) Ds w (s.mem.pick hp)
theorem AD9 {v v0:Value} (h:v=v0) {news2:Blks}:∀ w,Mem W [] news2 w→Pure v0 W (.returned v) w:=fun _ hm=>⟨by rw [h],hm.drop⟩
end
def eqFs (P:Program) (g:TypeId→List Value→List Value→Option Bool) (cs es:List Value):List Field→Option Bool
 | []=>some true
 | f::fs=>if f.name = "_" then none else
   match g f.type ((cs.drop f.offset).take (P.cellsOf f.type)) ((es.drop f.offset).take (P.cellsOf f.type)),eqFs P g cs es fs with
   | some a,some b=>some (a && b)
   | _,_=>none
def eqIs (P:Program) (g:TypeId→List Value→List Value→Option Bool) (e:TypeId) (cs es:List Value):List Nat→Option Bool
 | []=>some true
 | i::is=>match g e ((cs.drop (i * P.cellsOf e)).take (P.cellsOf e)) ((es.drop (i * P.cellsOf e)).take (P.cellsOf e)),eqIs P g e cs es is with
   | some a,some b=>some (a && b)
   | _,_=>none
def eqF (P:Program):Nat→TypeId→List Value→List Value→Option Bool
 | 0,_,_,_=>none
 | m + 1,t,cs,es=>match P.underlying t with
   | some (.int _)=>match cs,es with
     | [.int k a],[.int k' b]=>if k=k' then some (decide (a=b)) else none
     | _,_=>none
   | some .bool=>match cs,es with
     | [.bool a],[.bool b]=>some (a == b)
     | _,_=>none
   | some .string=>match cs,es with
     | [.string a],[.string b]=>some (a.toList == b.toList)
     | _,_=>none
   | some (.struct fs)=>if P.stoodInHeld t=false∧cs.length=P.cellsOf t∧es.length=P.cellsOf t then eqFs P (eqF P m) cs es fs.toList else none
   | some (.array n e)=>if n ≠ 0∧cs.length=P.cellsOf t∧es.length=P.cellsOf t then eqIs P (eqF P m) e cs es (List.range n) else none
   | _=>none
def valOf (P:Program) (t:TypeId) (cs:List Value):Value:=match P.underlying t with
 | some (.struct _)=>.agg cs.toArray
 | some (.array _ _)=>.agg cs.toArray
 | _=>cs.headD undef
section
variable {P:Program}
theorem BV2 {m off:Nat} {t:TypeId} {xs es:List Value} {w:World} {b:Bool} (h:eqF P m t ((xs.drop off).take (P.cellsOf t)) es=some b):(part t xs.toArray off).run P w = .ok (valOf P t ((xs.drop off).take (P.cellsOf t))) w:=by
 cases m with
 | zero=>cases h
 | succ m =>
   unfold eqF at h
   cases hu:P.underlying t with
   | none=>simp [hu] at h
   | some d =>
     rw [hu] at h
     have plain:∀ v,(xs.drop off).take (P.cellsOf t)=[v]→xs[off]? = some v:=fun v hv=>by
      have h1:((xs.drop off).take (P.cellsOf t))[0]? = some v:=by rw [hv];rfl
      rw [List.getElem?_take] at h1
      split at h1
      · simpa using h1
      · cases h1
     have agg:isAggD d=true→(part t xs.toArray off).run P w = .ok (.agg ((xs.drop off).take (P.cellsOf t)).toArray) w:=fun ha=>by
      obtain ⟨i,hi⟩:=info_of_underlying hu;have hc:P.cellsOf t=i.size:=by simp [Program.cellsOf,hi]
      have e:xs.toArray.extract off (off + i.size)=((xs.drop off).take (P.cellsOf t)).toArray:=by
       rw [hc];simp
      cases d <;> simp [isAggD] at ha <;> simp [part,isAgg,run_underlying hu,sizeOf,typeInfo,hi,← e]
     unfold valOf;rw [hu]
     cases d with
     | int k =>
       simp only at h ⊢
       split at h
       · rename_i a _ _ hv
         rw [hv];exact Am9 hu rfl (by simpa using plain _ hv)
       · cases h
     | bool =>
       simp only at h ⊢
       split at h
       · rename_i a _ hv
         rw [hv];exact Am9 hu rfl (by simpa using plain _ hv)
       · cases h
     | string =>
       simp only at h ⊢
       split at h
       · rename_i a _ hv
         rw [hv];exact Am9 hu rfl (by simpa using plain _ hv)
       · cases h
     | struct fs=>exact agg rfl
     | array n e=>exact agg rfl
     | _=>simp at h
theorem Cg7 {m off:Nat} {t:TypeId} {xs cs:List Value} {w:World} {b:Bool} (h:eqF P m t cs ((xs.drop off).take (P.cellsOf t))=some b):(part t xs.toArray off).run P w = .ok (valOf P t ((xs.drop off).take (P.cellsOf t))) w:=by
 have h2:∃ b,eqF P m t ((xs.drop off).take (P.cellsOf t)) ((xs.drop off).take (P.cellsOf t))=some b:=by
  have sym : ∀ (m : Nat) (t : TypeId) (cs es : List Value) (b : Bool), eqF P m t cs es = some b → ∃ b, eqF P m t es es = some b := by
   intro m
   induction m with
   | zero=>intro t cs es b h;cases h
   | succ m ih =>
     intro t cs es b h;unfold eqF at h ⊢
     split at h
     · split at h
       · split at h
         · rename_i hk;subst hk;exact ⟨_,by simp;rfl⟩
         · cases h
       · cases h
     · split at h
       · exact ⟨_,by simp;rfl⟩
       · cases h
     · split at h
       · exact ⟨_,by simp;rfl⟩
       · cases h
     · rename_i fs _
       split at h
       · rename_i hc
         rw [if_pos ⟨hc.1,hc.2.2,hc.2.2⟩]
         generalize fs.toList=l at h
         induction l generalizing b with
         | nil=>exact ⟨true,rfl⟩
         | cons f l ihl =>
           unfold eqFs at h ⊢
           split at h
           · cases h
           · rename_i hn
             rw [if_neg hn]
             split at h
             · rename_i a b' h1 h2
               obtain ⟨u,hu⟩:=ih _ _ _ _ h1;obtain ⟨v,hv⟩:=ihl _ h2;rw [hu,hv];exact ⟨_,rfl⟩
             · cases h
       · cases h
     · rename_i n e _
       split at h
       · rename_i hc
         rw [if_pos ⟨hc.1,hc.2.2,hc.2.2⟩]
         generalize List.range n=l at h
         induction l generalizing b with
         | nil=>exact ⟨true,rfl⟩
         | cons i l ihl =>
           unfold eqIs at h ⊢
           split at h
           · rename_i a b' h1 h2
             obtain ⟨u,hu⟩:=ih _ _ _ _ h1;obtain ⟨v,hv⟩:=ihl _ h2;rw [hu,hv];exact ⟨_,rfl⟩
           · cases h
       · cases h
     · cases h
  exact sym _ _ _ _ _ h
 obtain ⟨b2,h2⟩:=h2;exact BV2 h2
theorem BU5 (d:Nat):∀ (m:Nat) (t:TypeId) (cs es:List Value) (b:Bool) (w:World),eqF P m t cs es=some b→(Op.equalIn (d + m) t (valOf P t cs) (valOf P t es)).run P w = .ok b w:=by
 intro m
 induction m with
 | zero=>intro t cs es b w h;cases h
 | succ m ih =>
   intro t cs es b w h;unfold eqF at h;unfold valOf;rw [show d + (m + 1)=(d + m) + 1 from rfl]
   cases hu:P.underlying t with
   | none=>simp [hu] at h
   | some dd =>
     rw [hu] at h
     cases dd with
     | int k =>
       simp only at h ⊢
       split at h
       · split at h
         · rename_i hk
           cases h
           subst hk;rw [List.headD_cons,List.headD_cons,AD6 hu];rfl
         · cases h
       · cases h
     | bool =>
       simp only at h ⊢
       split at h
       · cases h
         rw [List.headD_cons,List.headD_cons,run_equalIn_bool w _ _ _ _ hu]
       · cases h
     | string =>
       simp only at h ⊢
       split at h
       · cases h
         rw [List.headD_cons,List.headD_cons,run_equalIn_string w _ _ _ _ hu]
       · cases h
     | struct fs =>
       simp only at h ⊢
       split at h
       · rename_i hc
         have hfs:P.fieldsOf t=fs:=by simp [Program.fieldsOf,hu]
         rw [run_equalIn_struct w (d + m) t _ _ (by rw [hfs];exact hu) hc.1,hfs]
         generalize fs.toList=l at h
         induction l generalizing b with
         | nil=>cases h;simp [Op.eqFields]
         | cons f l ihl =>
           unfold eqFs at h
           split at h
           · cases h
           · rename_i hn
             split at h
             · rename_i a b' h1 h2
               cases h
               unfold Op.eqFields;rw [if_pos hn];simp only [Sem.run_bind,BV2 h1,Cg7 h1,Result.andThen_ok,ih _ _ _ _ w h1]
               cases a with
               | true=>simpa using ihl _ h2
               | false=>simp
             · cases h
       · cases h
     | array n e =>
       simp only at h ⊢
       split at h
       · rename_i hc
         have hn:=hc.1
         have hie:∃ i,P.info? e=some i:=by
          have h0:List.range n=0::(List.range' 1 (n - 1)):=by
           rw [List.range_eq_range']
           cases n with
           | zero=>exact absurd rfl hn
           | succ n=>simp [List.range'_succ]
          rw [h0] at h;unfold eqIs at h
          split at h
          · rename_i a b' h1 h2
            cases m with
            | zero=>cases h1
            | succ m =>
              unfold eqF at h1
              cases hue:P.underlying e with
              | none=>simp [hue] at h1
              | some _=>exact info_of_underlying hue
          · cases h
         obtain ⟨i,hi⟩:=hie;rw [run_equalIn_array w (d + m) _ _ hu hi]
         generalize List.range n=l at h
         induction l generalizing b with
         | nil=>cases h;simp [Op.eqItems]
         | cons j l ihl =>
           unfold eqIs at h
           split at h
           · rename_i a b' h1 h2
             cases h
             unfold Op.eqItems;simp only [Sem.run_bind,BV2 h1,Cg7 h1,Result.andThen_ok,ih _ _ _ _ w h1]
             cases a with
             | true=>simpa using ihl _ h2
             | false=>simp
           · cases h
       · cases h
     | _=>simp at h
end
section
variable {P:Program} {ops:Array Oper} {Q:Exit→Act→World→Prop} {n:Nat} {r:Regs} {ds:List Deferred} {W:World} {chg news:Blks} {rest:List Oper}
variable {d:Nat} {ty:TypeId} {pos:String} {after:Array Edge} {dst:Option Tmp} {gd:Option (Nat×Bool)}
def aggB (P:Program) (T:TypeId):Bool:=!P.eqGuardType P.depth T && match P.underlying T with | some (.struct _)=>true | some (.array _ _)=>true | _=>false
theorem Ax3 {T:TypeId} (h:aggB P T=true) (cs:List Value):P.eqGuardType P.depth T=false∧valOf P T cs = .agg cs.toArray:=by
 simp only [aggB,Bool.and_eq_true,Bool.not_eq_true'] at h;refine ⟨h.1,?_⟩
 have h2:=h.2;unfold valOf
 split at h2 <;> simp_all
theorem BO9 {x y:Operand} {T yt:TypeId} {cs es:List Value} {b:Bool} (hx:rev r x=some (.agg cs.toArray)) (hy:rev r y=some (.agg es.toArray)) (h:aggB P T=true) (he:eqF P 8 T cs es=some b) :
  Val P r W chg news { dst,op:=.binOp .neq T x y yt,type:=ty,pos,after,guard:=gd } (.bool (!b)) :=
 ⟨fun ac w ha _=>by
  have h1:=BU5 9992 8 T cs es b w he;rw [(Ax3 h cs).2,(Ax3 h es).2] at h1;have h2:(Op.equal T (.agg cs.toArray) (.agg es.toArray)).run P w = .ok b w:=h1;simp [execOp,ha.eval hx,ha.eval hy,eqGuard,(Ax3 h cs).1,binOp,h2]⟩
end
def mEntsF:Nat→List (Int×Value)→List MapEntry
 | _,[]=>[]
 | i,x::l=>{ key:=.int .i64 x.1,val:=x.2,born:=i }::mEntsF (i + 1) l
def mapO (l:List (Int×Value)):Obj:=.map (mEntsF 0 l).toArray l.length
def mIdx:List (Int×Value)→Int→Option (Nat×Value)
 | [],_=>none
 | x::l,a=>if x.1=a then some (0,x.2) else (mIdx l a).map fun p=>(p.1 + 1,p.2)
def mFind (l:List (Int×Value)) (a:Int):Option Value:=(mIdx l a).map (·.2)
theorem Dk4:∀ (l:List (Int×Value)) (i:Nat),(mEntsF i l).length=l.length
 | [],_=>rfl
 | x::l,i=>by simp [mEntsF,Dk4 l (i + 1)]
theorem BL6:∀ (l:List (Int×Value)) (i:Nat) (x:Int×Value),mEntsF i (l++[x])=mEntsF i l++[{ key:=.int .i64 x.1,val:=x.2,born:=i + l.length }]
 | [],i,x=>by simp [mEntsF]
 | y::l,i,x=>by
   simp only [List.cons_append,mEntsF,BL6 l (i + 1) x,List.length_cons];rw [show i + 1 + l.length=i + (l.length + 1) by omega]
theorem Bx9 {e:MapEntry}:∀ (l:List (Int×Value)) (i:Nat),e∈mEntsF i l→∃ j,∃ h:j < l.length,e={ key:=.int .i64 l[j].1,val:=l[j].2,born:=i + j }
 | [],i,h=>by cases h
 | x::l,i,h=>by
   simp only [mEntsF,List.mem_cons] at h
   rcases h with rfl | h
   · exact ⟨0,by simp,by simp⟩
   · obtain ⟨j,hj,rfl⟩:=Bx9 l (i + 1) h
     exact ⟨j + 1,by simp only [List.length_cons];omega,by simp only [List.getElem_cons_succ];rw [show i + 1 + j=i + (j + 1) by omega]⟩
theorem BY2:∀ (l:List (Int×Value)) (i j:Nat) (h:j < l.length),({ key:=.int .i64 l[j].1,val:=l[j].2,born:=i + j }:MapEntry)∈mEntsF i l
 | x::l,i,0,_=>by simp [mEntsF]
 | x::l,i,j + 1,h=>by
   have:=BY2 l (i + 1) j (by simpa using h)
   simp only [mEntsF,List.mem_cons,List.getElem_cons_succ]
   right
   rw [show i + (j + 1)=i + 1 + j by omega];exact this
theorem AH8 (q:IntKind) (a:Int):∀ (l:List (Int×Value)) (i j:Nat),Instr.findNow (.int q) (.int .i64 a) (mEntsF i l) j=some ((mIdx l a).map fun p=>(j + p.1,p.2))
 | [],_,_=>rfl
 | x::l,i,j=>by
   unfold mEntsF Instr.findNow mIdx
   by_cases h:x.1=a
   · subst h;simp [Instr.sameNow]
   · have h2:(a == x.1)=false:=by simp;exact fun e=>h e.symm
     simp only [Instr.sameNow,if_true,h2,h,if_false];rw [AH8 q a l (i + 1) (j + 1)]
     cases mIdx l a with
     | none=>rfl
     | some p=>simp;omega
def mapB (P:Program) (T:TypeId):Option TypeId:=match P.underlying T with
 | some (.map k e)=>if (P.underlying k).any isIntD then some e else none
 | _=>none
def zeroV (P:Program) (E:TypeId):Option Value:=(P.info? E).bind (·.zero)
theorem Bf8 {P:Program} {T E:TypeId} (h:mapB P T=some E):∃ k q,P.underlying T=some (.map k E)∧P.underlying k=some (.int q):=by
 unfold mapB at h
 split at h
 · rename_i k e hu
   split at h
   · rename_i hk
     obtain ⟨q,hq⟩:=AV5 hk
     cases h
     exact ⟨k,q,hu,hq⟩
   · cases h
 · cases h
section
variable {P:Program} {ops:Array Oper} {Q:Exit→Act→World→Prop} {n:Nat} {r:Regs} {ds:List Deferred} {W:World} {chg news:Blks} {rest:List Oper}
variable {d:Nat} {ty:TypeId} {pos:String} {after:Array Edge} {dst:Option Tmp} {gd:Option (Nat×Bool)}
theorem AM1 {w:World} {T E:TypeId} {b:Nat} {l:List (Int×Value)} {a:Int} {z:Value} {ok:Bool} (hb:w.heap[b]? = some (mapO l)) (hT:mapB P T=some E) (hz:zeroV P E=some z) :
  (Instr.lookup T (.map (some b)) (.int .i64 a) ok).run P w = .ok (if ok then .tuple #[(mFind l a).getD z,.bool (mFind l a).isSome] else (mFind l a).getD z) w:=by
 obtain ⟨k,q,hu,hq⟩:=Bf8 hT
 have hzz:(zeroValue E).run P w = .ok z w:=by
  unfold zeroV at hz
  cases hi:P.info? E with
  | none=>simp [hi] at hz
  | some i =>
    simp [hi] at hz
    simp [zeroValue,typeInfo,hi,hz]
 have hf:(Instr.findKey k (.int .i64 a) (mEntsF 0 l)).run P w = .ok (mIdx l a) w:=by
  have:=AH8 q a l 0 0
  refine (MapKept.run_findKey hq this).trans ?_
  cases mIdx l a <;> simp
 have hc:∀ e,(Instr.checkKey e 10000 k (.int .i64 a)).run P w = .ok () w:=fun e=>by
  rw [show (10000:Nat)=9999 + 1 from rfl];unfold Instr.checkKey;simp [run_underlying hq]
 unfold mapO at hb;unfold mFind;simp only [Instr.lookup,Sem.run_bind,run_underlying hu,Result.andThen_ok,MapKept.run_getObj_map hb,Sem.run_pure];rw [hc];simp only [Result.andThen_ok,hf]
 cases h:mIdx l a with
 | none=>cases ok <;> simp [hzz]
 | some p=>cases ok <;> simp
theorem Val.lookup {x i:Operand} {T E:TypeId} {b:Nat} {l:List (Int×Value)} {a:Int} {z:Value} (hx:rev r x=some (.map (some b))) (hi:rev r i=some (.int .i64 a)) (hb:∀ w,Mem W chg news w→w.heap[b]? = some (mapO l)) (hT:mapB P T=some E) (hz:zeroV P E=some z) :
  Val P r W chg news { dst,op:=.lookup T x i false,type:=ty,pos,after,guard:=gd } ((mFind l a).getD z) :=
 ⟨fun ac w ha hm=>by
  have h1:=AM1 (P:=P) (ok:=false) (a:=a) (hb w hm) hT hz;simp at h1
  simp [execOp,ha.eval hx,ha.eval hi,h1]⟩
theorem BP1 {x i:Operand} {T E:TypeId} {b:Nat} {l:List (Int×Value)} {a:Int} {z:Value} (hx:rev r x=some (.map (some b))) (hi:rev r i=some (.int .i64 a)) (hb:∀ w,Mem W chg news w→w.heap[b]? = some (mapO l)) (hT:mapB P T=some E) (hz:zeroV P E=some z) :
  Val P r W chg news { dst,op:=.lookup T x i true,type:=ty,pos,after,guard:=gd } (.tuple #[(mFind l a).getD z,.bool (mFind l a).isSome]) :=
 ⟨fun ac w ha hm=>by
  have h1:=AM1 (P:=P) (ok:=true) (a:=a) (hb w hm) hT hz;simp at h1
  simp [execOp,ha.eval hx,ha.eval hi,h1]⟩
theorem Ax5 {x i:Operand} {T E:TypeId} {b:Nat} {l:List (Int×Value)} {a:Int} {z:Value} {o:Option Value} (hx:rev r x=some (.map (some b))) (hi:rev r i=some (.int .i64 a)) (hb:∀ w,Mem W chg news w→w.heap[b]? = some (mapO l)) (hT:mapB P T=some E) (hz:zeroV P E=some z) (ho:mFind l a=o) :
  Val P r W chg news { dst,op:=.lookup T x i false,type:=ty,pos,after,guard:=gd } (o.getD z):=ho ▸ Val.lookup hx hi hb hT hz
theorem BB4 {x i:Operand} {T E:TypeId} {b:Nat} {l:List (Int×Value)} {a:Int} {z v:Value} (hx:rev r x=some (.map (some b))) (hi:rev r i=some (.int .i64 a)) (hb:∀ w,Mem W chg news w→w.heap[b]? = some (mapO l)) (hT:mapB P T=some E) (hz:zeroV P E=some z) (ho:Value.tuple #[(mFind l a).getD z,.bool (mFind l a).isSome]=v) :
  Val P r W chg news { dst,op:=.lookup T x i true,type:=ty,pos,after,guard:=gd } v:=ho ▸ BP1 hx hi hb hT hz
theorem New.makeMap {T:TypeId}:New P r W chg news { dst,op:=.makeMap T none,type:=ty,pos,after,guard:=gd } (fun b=>.map (some b)) (mapO []) :=
 ⟨fun a w _ _=>by simp [execOp,Instr.makeMap,newObj,Sem.run,mapO,mEntsF]⟩
theorem AT5 {w:World} {T E:TypeId} {b:Nat} {l:List (Int×Value)} {a:Int} {v:Value} (hb:w.heap[b]? = some (mapO l)) (hT:mapB P T=some E) (hk:mIdx l a=none) :
  (Instr.mapUpdate T (.map (some b)) (.int .i64 a) v).run P w = .ok () { w with heap:=w.heap.setIfInBounds b (mapO (l++[(a,v)])) }:=by
 obtain ⟨k,q,hu,hq⟩:=Bf8 hT
 have hf:(Instr.findKey k (.int .i64 a) (mEntsF 0 l)).run P w = .ok none w:=by
  have:=AH8 q a l 0 0
  rw [hk] at this;exact MapKept.run_findKey hq this
 have hc:∀ e,(Instr.checkKey e 10000 k (.int .i64 a)).run P w = .ok () w:=fun e=>by
  rw [show (10000:Nat)=9999 + 1 from rfl];unfold Instr.checkKey;simp [run_underlying hq]
 have e1:mapO (l++[(a,v)]) = .map ((mEntsF 0 l).toArray.push { key:=.int .i64 a,val:=v,born:=l.length }) (l.length + 1):=by
  unfold mapO;rw [BL6];simp
 unfold mapO at hb;rw [e1];simp only [Instr.mapUpdate,Sem.run_bind,run_underlying hu,Result.andThen_ok,MapKept.run_getObj_map hb,hc,hf,MapKept.run_setObj_map _ hb]
theorem Aj7 {w:World} {b:Nat} {o o':Obj} (hb:w.heap[b]? = some o):({ w with heap:=w.heap.setIfInBounds b o' }:World).heap[b]? = some o'∧∀ k,k ≠ b→({ w with heap:=w.heap.setIfInBounds b o' }:World).heap[k]? = w.heap[k]?:=by
 have hlt:=(Array.getElem?_eq_some_iff.1 hb).1;refine ⟨by simp [hlt],fun k hk=>?_⟩
 show (w.heap.setIfInBounds b o')[k]? = _
 rw [Array.getElem?_setIfInBounds,if_neg (fun e=>hk e.symm)]
theorem Cw8 {x i y:Operand} {T E:TypeId} {b:Nat} {l:List (Int×Value)} {a:Int} {v:Value} {news':Blks} (hx:rev r x=some (.map (some b))) (hi:rev r i=some (.int .i64 a)) (hy:rev r y=some v) (hu:Upd news b (mapO l) (mapO (l++[(a,v)])) news') (hT:mapB P T=some E) (hk:mIdx l a=none) :
  Sto P r W chg news { dst,op:=.mapUpdate T x i y,type:=ty,pos,after,guard:=gd } chg news' :=
 ⟨fun ac w ha hm=>by
  have hb:=(hm.newd _ _ hu.mem).2;obtain ⟨s1,s2⟩:=Aj7 (o':=mapO (l++[(a,v)])) hb;refine ⟨{ w with heap:=w.heap.setIfInBounds b (mapO (l++[(a,v)])) },by simp [execOp,ha.eval hx,ha.eval hi,ha.eval hy,AT5 hb hT hk],hm.upd_new hu rfl rfl rfl (by simp) (fun k _ hk=>s2 k hk) s1⟩⟩
def itO (m:Nat) (l:List (Int×Value)) (x:List Nat):Obj:=.mapIter (some m) l.length x.toArray l.length
theorem New.range {x:Operand} {T E:TypeId} {m:Nat} {l:List (Int×Value)} (hx:rev r x=some (.map (some m))) (hb:∀ w,Mem W chg news w→w.heap[m]? = some (mapO l)) (hT:mapB P T=some E) :
  New P r W chg news { dst,op:=.range T x,type:=ty,pos,after,guard:=gd } (fun b=>.pointer (some ⟨b,0,none⟩)) (itO m l []) :=
 ⟨fun a w ha hm=>by
  obtain ⟨k,q,hu,hq⟩:=Bf8 hT;have hb':w.heap[m]? = some (.map (mEntsF 0 l).toArray l.length):=hb w hm;simp [execOp,ha.eval hx,Instr.range,run_underlying hu,MapKept.run_getObj_map hb',newObj,Sem.run,itO]⟩
theorem RunL.next {it:Operand} {rb m:Nat} {l:List (Int×Value)} {x:List Nat} {news':Nat→Blks} (hx:rev r it=some (.pointer (some ⟨rb,0,none⟩))) (hm0:∀ w,Mem W chg news w→w.heap[m]? = some (mapO l)) (hu:∀ i,Upd news rb (itO m l x) (itO m l (x++[i])) (news' i)) (hn:Nat.ble (d + 1) n=true)
  (h1:∀ i (hi:i < l.length),i ∉ x→RunL P ops Q n rest ((d,.tuple #[.bool true,.int .i64 l[i].1,l[i].2])::r) ds W chg (news' i))
  (h2:(∀ i,i < l.length→i∈x)→RunL P ops Q n rest ((d,.tuple #[.bool false])::r) ds W chg news) :
  RunL P ops Q n ({ dst:=some d,op:=.next it false,type:=ty,pos,after,guard:=none }::rest) r ds W chg news:=fun a w s =>
 wpList_plain rfl fun K hK=>by
  have hr:w.heap[rb]? = some (.mapIter (some m) l.length x.toArray l.length):=(s.mem.newd _ _ (hu 0).mem).2;have hb:w.heap[m]? = some (.map (mEntsF 0 l).toArray l.length):=hm0 w s.mem;have hev:=s.agree.eval hx
  have hlt:∀ e∈(mEntsF 0 l).toArray.toList,e.born < l.length:=fun e he=>by
   obtain ⟨j,hj,rfl⟩:=Bx9 l 0 (by simpa using he);simpa using hj
  unfold Oper.wp
  rcases run_next_at (P:=P) w ty rb m l.length l.length x.toArray (mEntsF 0 l).toArray l.length hr hb hlt (Nat.le_refl _) with ⟨h0,hrun⟩ | ⟨e,he,w1,hw1,hrun⟩
  · simp [execOp,hev,hrun]
    refine hK _ _ (h2 (fun i hi=>?_) _ _ (s.put (Nat.le_of_ble_eq_true hn) _))
    by_cases hc:i∈x
    · exact hc
    · exfalso
      have hin:({ key:=.int .i64 l[i].1,val:=l[i].2,born:=0 + i }:MapEntry)∈leftOf (mEntsF 0 l).toArray x.toArray:=by
       unfold leftOf;simp only [Array.mem_filter,List.mem_toArray];exact ⟨BY2 l 0 i hi,by simpa using hc⟩
      have:=Array.size_pos_of_mem hin
      omega
  · have he2:e∈(mEntsF 0 l)∧e.born ∉ x:=by
     have h3:e∈leftOf (mEntsF 0 l).toArray x.toArray:=by simpa using he
     unfold leftOf at h3;simp only [Array.mem_filter,List.mem_toArray] at h3;exact ⟨h3.1,by simpa using h3.2⟩
    obtain ⟨j,hj,rfl⟩:=Bx9 l 0 he2.1;have hjx:j ∉ x:=by simpa using he2.2
    simp [execOp,hev,hrun]
    refine hK _ _ (h1 j hj hjx _ _ ?_)
    have s2:=s.put (Nat.le_of_ble_eq_true hn) (.tuple #[.bool true,.int .i64 l[j].1,l[j].2]);have hr1:w1.heap[rb]? = some (.mapIter (some m) l.length x.toArray l.length):=by rcases hw1 with rfl | rfl <;> exact hr
    obtain ⟨q1,q2⟩:=Aj7 (o':=itO m l (x++[j])) hr1
    have hmem1:Mem W chg news w1:=by
     rcases hw1 with rfl | rfl
     · exact s.mem
     · exact s.mem.drew
    refine ⟨s2.size,s2.agree,s2.defers,?_⟩
    have e1:ChangeMaps.setBlock w1 rb (.mapIter (some m) l.length (x++[j]).toArray l.length)={ w1 with heap:=w1.heap.setIfInBounds rb (itO m l (x++[j])) }:=by
     simp [ChangeMaps.setBlock,itO]
    rw [e1];exact hmem1.upd_new (hu j) rfl rfl rfl (by simp) (fun k _ hk=>q2 k hk) q1
theorem Bq3:∀ (l:List (Int×Value)) (i:Nat),((mEntsF i l).map (·.born)).Nodup∧∀ b∈(mEntsF i l).map (·.born),i≤b
 | [],_=>by simp [mEntsF]
 | x::l,i=>by
   obtain ⟨h1,h2⟩:=Bq3 l (i + 1);simp only [mEntsF,List.map_cons,List.nodup_cons,List.mem_cons,forall_eq_or_imp];exact ⟨⟨fun h=>by have:=h2 _ h;omega,h1⟩,Nat.le_refl _,fun b hb=>by have:=h2 b hb;omega⟩
theorem Val.entry {x:Operand} {rb m i:Nat} {l:List (Int×Value)} {xs:List Nat} (hx:rev r x=some (.pointer (some ⟨rb,0,none⟩))) (hr:∀ w,Mem W chg news w→w.heap[rb]? = some (itO m l (xs++[i]))) (hm0:∀ w,Mem W chg news w→w.heap[m]? = some (mapO l)) (hi:i < l.length) :
  Val P r W chg news { dst,op:=.entry x,type:=ty,pos,after,guard:=gd } (.tuple #[.int .i64 l[i].1,l[i].2]) :=
 ⟨fun a w ha hm=>by
  have h1:w.heap[rb]? = some (.mapIter (some m) l.length (xs.toArray.push (0 + i)) l.length):=by rw [hr w hm];simp [itO]
  have h2:w.heap[m]? = some (.map (mEntsF 0 l).toArray l.length):=hm0 w hm
  have:=run_entry_at (P:=P) w rb m l.length xs.toArray (mEntsF 0 l).toArray l.length { key:=.int .i64 l[i].1,val:=l[i].2,born:=0 + i } h1 h2 (by simpa using BY2 l 0 i hi) (by simpa using (Bq3 l 0).1)
  simp [execOp,ha.eval hx,this]⟩
theorem At1 {x:Operand} {T:TypeId} {len sz b o:Nat} (hx:rev r x=some (.pointer (some ⟨b,o,none⟩))) (hT:arrB P T=some (len + 1,sz)) :
  Val P r W chg news { dst,op:=.slice T x none none none,type:=ty,pos,after,guard:=gd } (.slice (some ⟨b,o,none⟩) (len + 1) (len + 1)) :=
 ⟨fun a w ha _=>by
  unfold arrB at hT
  split at hT
  · rename_i m e hu
    cases hj:P.info? e with
    | none=>simp [hj] at hT
    | some j =>
      simp [hj] at hT
      obtain ⟨rfl,rfl⟩:=hT;simp [execOp,ha.eval hx,Instr.sliceAt,Instr.sureAddr,Instr.sliceBounds,run_underlying hu,sizeOf,typeInfo,hj,add_plain]
  · cases hT⟩
theorem Ax4 {x:Operand} {name:String} {first cap:Array Value} {T:TypeId} {v:Value} (hx:rev r x=some (.func (.method name) first cap)) (hf:first[0]? = some (.iface T v)) (hn:∀ w,(nilAhead (P.types.size + Made.depth) T v name).run P w = .ok (some false) w) :
  Val P r W chg news { dst,op:=.nilCheck x,type:=ty,pos,after,guard:=gd } (.func (.method name) first cap) :=
 ⟨fun a w ha _=>by
  have h1:=hn w;simp [execOp,ha.eval hx,hf,h1]⟩
theorem Cw6 {x:Operand} {rb m i:Nat} {l:List (Int×Value)} {xs:List Nat} {v:Value} (hx:rev r x=some (.pointer (some ⟨rb,0,none⟩))) (hr:∀ w,Mem W chg news w→w.heap[rb]? = some (itO m l (xs++[i]))) (hm0:∀ w,Mem W chg news w→w.heap[m]? = some (mapO l)) (hi:i < l.length) (hv:Value.tuple #[.int .i64 l[i].1,l[i].2]=v) :
  Val P r W chg news { dst,op:=.entry x,type:=ty,pos,after,guard:=gd } v:=hv ▸ Val.entry hx hr hm0 hi
end
structure Vis (n k:Nat) (x:List Nat):Prop where
 nd:x.Nodup
 lt:∀ i∈x,i < n
 len:x.length=k
theorem Vis.nil {n:Nat}:Vis n 0 []:=⟨List.nodup_nil,fun i h=>(by cases h),rfl⟩
theorem Bv9:∀ (n:Nat) (x:List Nat),x.Nodup→(∀ i∈x,i < n)→x.length≤n
 | 0,x,_,h=>by
   cases x with
   | nil=>simp
   | cons a x=>exact absurd (h a (by simp)) (by omega)
 | n + 1,x,hn,h=>by
   by_cases hm:n∈x
   · have h1:=Bv9 n (x.erase n) (hn.erase n) (fun i hi=>by
      have h2:=(List.Nodup.mem_erase_iff hn).1 hi
      have:=h i h2.2
      have:=h2.1
      omega)
     rw [List.length_erase_of_mem hm] at h1;omega
   · have:=Bv9 n x hn (fun i hi=>by
      have:=h i hi
      have:i ≠ n:=fun e=>hm (e ▸ hi)
      omega)
     omega
theorem Vis.snoc {n k i:Nat} {x:List Nat} (h:Vis n k x) (hi:i < n) (hx:i ∉ x):Vis n (k + 1) (x++[i]) :=
 ⟨List.nodup_append.2 ⟨h.nd,by simp,fun a ha b hb=>by cases List.mem_singleton.1 hb;exact fun e=>hx (e ▸ ha)⟩,fun j hj=>by
  rcases List.mem_append.1 hj with hj | hj
  · exact h.lt j hj
  · cases List.mem_singleton.1 hj;exact hi,by simp [h.len]⟩
theorem Vis.more {n k i:Nat} {x:List Nat} (h:Vis n k x) (hi:i < n) (hx:i ∉ x):k < n:=by
 have:=Bv9 n _ (h.snoc hi hx).nd (h.snoc hi hx).lt
 rw [(h.snoc hi hx).len] at this;omega
variable {P:Program} {r:Regs} {W:World} {chg news:Blks}
theorem RunB.ways {ops:Array Oper} {Q:Exit→Act→World→Prop} {n:Nat} {ds:List Deferred} {fuel:Nat} {listed:Array Bool} {b:Bool} {dj:Nat} (hj:rget r dj=some (.bool b)) (h1:b=true→RunB P ops Q n fuel listed ((dj,.bool true)::r) ds W chg news)
  (h2:b=false→RunB P ops Q n fuel listed ((dj,.bool false)::r) ds W chg news):RunB P ops Q n fuel listed r ds W chg news:=fun a w s=>by
 cases b with
 | true=>exact h1 rfl a w (s.know hj rfl)
 | false=>exact h2 rfl a w (s.know hj rfl)
section
variable {ty:TypeId} {pos:String} {after:Array Edge} {dst:Option Tmp} {gd:Option (Nat×Bool)}
end
end Go.Eng
namespace Go.Eng
open Go Go.RowKit
def bs (l:List UInt8):ByteArray:=⟨⟨l⟩⟩
theorem AI3 (l:List UInt8):(bs l).size=l.length:=rfl
theorem DT6 {a b:List UInt8}:bs a=bs b ↔ a=b:=⟨fun h=>congrArg (fun s=>s.data.toList) h,fun h=>by rw [h]⟩
theorem BN5 (l:List UInt8):(bs l).toList=l:=ByteArray.toList_mk l
def byteV (c:UInt8):Value:=.int .u8 c.toNat
theorem AV1 (l:List UInt8) (a b:Nat):(bs l).extract a b=bs ((l.drop a).take (b - a)):=by
 rw [ByteArray.ext_iff,ByteArray.data_extract]
 show (l.toArray).extract a b=((l.drop a).take (b - a)).toArray
 rw [List.extract_toArray,List.extract_eq_take_drop]
theorem CV9 (a b:List UInt8):bs a++bs b=bs (a++b):=by
 rw [ByteArray.ext_iff,ByteArray.data_append];simp [bs]
structure NewX {β:Type} (P:Program) (r:Regs) (W:World) (chg news:Blks) (o:Oper) (v:β→Nat→Value) (ob:β→Obj) (I:β→Prop):Prop where
 run:∀ a w,Agree a r→Mem W chg news w→∃ x,I x∧((execOp a.eval o).run P w = .ok (.value (v x w.heap.size)) (w.alloc (ob x))∨(execOp a.eval o).run P w = .ok (.value (v x w.heap.size)) (w.drew.alloc (ob x)))
section
variable {P:Program} {ops:Array Oper} {Q:Exit→Act→World→Prop} {n:Nat} {r:Regs} {ds:List Deferred} {W:World} {chg news:Blks} {rest:List Oper}
variable {d:Nat} {ty:TypeId} {pos:String} {after:Array Edge} {dst:Option Tmp} {gd:Option (Nat×Bool)}
theorem BQ0 {β:Type} {o:Oper} {v:β→Nat→Value} {ob:β→Obj} {I:β→Prop} (hv:NewX P r W chg news o v ob I) (hg:guardB ops r o.guard=some true) (hd:o.dst=some d) (hn:Nat.ble (d + 1) n=true)
  (h:∀ x,I x→∀ b,RunL P ops Q n rest ((d,v x b)::r) ds W chg ((b,ob x)::news)):RunL P ops Q n (o::rest) r ds W chg news:=fun a w s =>
 AB6 (Ad5 s.agree hg) fun K hK=>by
  obtain ⟨x,hx,hr⟩:=hv.run a w s.agree s.mem;have s2:=s.put (Nat.le_of_ble_eq_true hn) (v x w.heap.size);unfold Oper.wp
  rcases hr with hr | hr
  · rw [hr,Oper.upon_value,hd]
    exact hK _ _ (h x hx _ _ _ ⟨s2.size,s2.agree,s2.defers,s.mem.alloc (ob x)⟩)
  · rw [hr,Oper.upon_value,hd]
    exact hK _ _ (h x hx _ _ _ ⟨s2.size,s2.agree,s2.defers,s.mem.drew.alloc (ob x)⟩)
variable {i:Nat} {K:Act→World→Prop}
def bytesO (e:TypeId) (l:List Value) (p:Nat):Obj:=Obj.cells (l++List.replicate p (Value.int .u8 0)).toArray e (l.length + p,l.length + p + 1)
theorem NewX.bytes {x:Operand} {S T e:TypeId} {l:List UInt8} (hx:rev r x=some (.string (bs l))) (hS:P.underlying S=some .string) (hT:P.underlying T=some (.slice e)) (he:P.underlying e=some (.int .u8)) :
  NewX P r W chg news { dst,op:=.convert S T x,type:=ty,pos,after,guard:=gd } (fun p b=>.slice (some ⟨b,0,none⟩) l.length (l.length + p)) (fun p=>bytesO e (l.map byteV) p) (fun _:Nat=>True) :=
 ⟨fun a w ha _=>by
  refine ⟨(Question.appendCap l.length 0 e).cut (w.tape w.drawn (Question.appendCap l.length 0 e)) - l.length,trivial,.inr ?_⟩
  have hc:l.length≤(Question.appendCap l.length 0 e).cut (w.tape w.drawn (Question.appendCap l.length 0 e)):=by simp [Question.cut]
  generalize hq:(Question.appendCap l.length 0 e).cut (w.tape w.drawn (Question.appendCap l.length 0 e))=q at hc ⊢
  have hf:(Question.appendCap l.length 0 e).forced=false:=rfl;have hb:(bs l).size=l.length:=rfl;simp only [execOp,ha.eval hx,convert,Sem.run_bind,run_underlying hS,run_underlying hT,Result.andThen_ok,Sem.run_pure,run_underlying he];simp only [Conv.stringToBytes,hb,Sem.run_bind,run_choose_drew,hf,hq,Result.andThen_ok,Sem.run_pure]
  have e1:Array.map (fun b:UInt8=>Value.int IntKind.u8 (b.toNat:Int)) (bs l).data++Array.replicate (q - l.length) (Value.int IntKind.u8 0)=(l.map byteV++List.replicate (q - l.length) (Value.int .u8 0)).toArray:=by
   simp [bs,byteV]
  have e2:((l.map byteV++List.replicate (q - l.length) (Value.int .u8 0)).toArray).size=q:=by simp;omega
  have e3:l.length + (q - l.length)=q:=by omega
  simp only [Bool.false_eq_true,if_false,Result.andThen_ok,e1]
  generalize hX:(l.map byteV++List.replicate (q - l.length) (Value.int .u8 0)).toArray=X at e2 ⊢
  have h4:(newRow e X).run P w.drew = .ok ⟨w.heap.size,0,none⟩ (w.drew.alloc (.cells X e)):=by simp [newRow]
  have h5:(markStringish ⟨w.heap.size,0,none⟩).run P (w.drew.alloc (.cells X e)) = .ok () (w.drew.alloc (.cells X e (q,q + 1))):=by
   have h6:(w.drew.alloc (.cells X e)).shape? w.heap.size=some (e,q):=by
    have h8:(w.drew.alloc (.cells X e)).heap[w.heap.size]? = some (.cells X e):=by
     show (w.heap.push (Obj.cells X e))[w.heap.size]? = _
     simp
    unfold World.shape?;rw [h8];simp only [e2]
   have h7:(w.drew.alloc (.cells X e)).freeze { block:=w.heap.size,off:=q } 1=w.drew.alloc (.cells X e (q,q + 1)):=by
    unfold World.freeze;rw [if_neg (by decide)]
    show ({ w with drawn:=w.drawn + 1,heap:=(w.heap.push (Obj.cells X e)).modify w.heap.size _ }:World)={ w with drawn:=w.drawn + 1,heap:=w.heap.push (Obj.cells X e (q,q + 1)) }
    congr 1
    refine Array.ext (by simp) fun i h1 h2=>?_
    simp only [Array.getElem_modify]
    by_cases hi:w.heap.size=i
    · subst hi;simp
    · have:i < w.heap.size:=by simp at h2;omega
      simp [hi,Array.getElem_push,this]
   simp [markStringish,h6,h7]
  simp only [h4,Result.andThen_ok,h5,e3];subst hX;simp [bytesO,e3]⟩
theorem DI2 {f:FuncId} {fn:Func} {e:Array Value→Sem Value} {xs:List Operand} {vs:List Value} {ats:Array TypeId} {v:Value} (hf:P.funcs[f]? = some fn) (hname:(fn.name == "runtime.NumGoroutine")=false) (hb:fn.body.isNone=true) (hn:Extern.findNext fn=none) (he:Extern.find fn=some e)
  (hx:revs r xs=some vs) (hv:∀ w,(e vs.toArray).run P w = .ok v w) :
  Val P r W chg news { dst,op:=.call { callee:=.value (.func f),args:=xs.toArray,argTypes:=ats },type:=ty,pos,after,guard:=gd } v :=
 ⟨fun a w ha _=>by
  have h1:=ha.evals hx;have h2:=run_callFunc_extern hf hname hb hn he vs.toArray w;rw [hv w] at h2;simp [execOp,resolve,h1,Deferred.ofValue,Act.eval,invoke]
  exact h2⟩
theorem Aj0 {x:Operand} {T:TypeId} {l:List UInt8} (hx:rev r x=some (.string (bs l))) (hT:P.underlying T=some .string) {ats:Array TypeId} (_h:ats = #[T]:=by rfl) :
  Val P r W chg news { dst,op:=.call { callee:=.builtin .len,args:=#[x],argTypes:=ats },type:=ty,pos,after,guard:=gd } (.int .i64 (l.length:Int)):=by
 subst _h;exact Cc1 hx hT
theorem AA3 {x y:Operand} {T:TypeId} {l:List UInt8} {k:IntKind} {i:Int} {c:UInt8} (hx:rev r x=some (.string (bs l))) (hy:rev r y=some (.int k i)) (hT:P.underlying T=some .string) (h0:0≤i) (hc:l[i.toNat]? = some c) :
  Val P r W chg news { dst,op:=.index T x y,type:=ty,pos,after,guard:=gd } (byteV c) :=
 ⟨fun a w ha _=>by
  obtain ⟨hi,he⟩:=List.getElem?_eq_some_iff.1 hc;have h1:=run_index_string (P:=P) w T (bs l) k i hT;rw [dif_pos ⟨h0,by rw [AI3];omega⟩] at h1;have h2:(bs l)[i.toNat]'(by rw [AI3];exact hi)=c:=he;rw [h2] at h1;simp [execOp,ha.eval hx,ha.eval hy,h1,byteV]⟩
theorem Cl2 {x y:Operand} {T yt:TypeId} {k:IntKind} {a b:Nat} (c:Nat) (hx:rev r x=some (.int k (a:Int))) (hy:rev r y=some (.int k (b:Int))) (hc:a * b=c) (hr:k.wrap (c:Int)=(c:Int)) :
  Val P r W chg news { dst,op:=.binOp .mul T x y yt,type:=ty,pos,after,guard:=gd } (.int k (c:Int)):=by
 subst hc;have h:=Val.mul (P:=P) (W:=W) (chg:=chg) (news:=news) (dst:=dst) (ty:=ty) (pos:=pos) (after:=after) (gd:=gd) (T:=T) (yt:=yt) hx hy (by rw [← Int.natCast_mul];exact hr);rw [← Int.natCast_mul] at h;exact h
theorem Val.nilIface {x:Operand} {t:TypeId} {v:Value} (hx:rev r x=some (.iface t v)):Val P r W chg news { dst,op:=.nilCheck x,type:=ty,pos,after,guard:=gd } (.iface t v) :=
 ⟨fun a w ha _=>by simp [execOp,ha.eval hx]⟩
def arrNB (P:Program) (T:TypeId):Option (Nat×Nat) :=
 match P.underlying T with
 | some (.array n e)=>match P.underlying e with
   | some d=>if isAggD d then (P.info? e).map fun j=>(n,j.size) else none
   | none=>none
 | _=>none
theorem Br9 {x y:Operand} {T:TypeId} {len sz:Nat} {cs vs:List Value} {k:IntKind} {i:Int} (hx:rev r x=some (.agg cs.toArray)) (hy:rev r y=some (.int k i)) (hT:arrNB P T=some (len,sz)) (h0:0≤i) (h1:i < len) (hv:(cs.drop (i.toNat * sz)).take sz=vs) :
  Val P r W chg news { dst,op:=.index T x y,type:=ty,pos,after,guard:=gd } (.agg vs.toArray) :=
 ⟨fun a w ha _=>by
  unfold arrNB at hT
  split at hT
  · rename_i n e hu
    split at hT
    · rename_i d hd
      split at hT
      · rename_i hag
        cases hj:P.info? e with
        | none=>simp [hj] at hT
        | some j =>
          simp [hj] at hT
          obtain ⟨rfl,rfl⟩:=hT
          have h2:(isAgg e).run P w = .ok true w:=by
           cases d <;> simp [isAggD] at hag <;> simp [isAgg,run_underlying hd]
          have hp:(part e cs.toArray (i.toNat * j.size)).run P w = .ok (.agg vs.toArray) w:=by
           simp [part,h2,sizeOf,typeInfo,hj]
           exact hv
          simp [execOp,ha.eval hx,ha.eval hy,Instr.index,asIntOf,run_underlying hu,h0,h1,sizeOf,typeInfo,hj,hp]
      · cases hT
    · cases hT
  · cases hT⟩
theorem Ar3 {v:Value} {k:IntKind} {m:Nat} {y:Nat} {code:BoundsCode} {w:World} (hv:v=Value.int k (m:Int)) (h:m≤y):(Instr.sliceBound v y code).run P w = .ok m w:=by
 subst hv;have h1:(0:Int)≤(m:Int)∧(m:Int)≤(y:Int):=⟨by omega,by omega⟩;simp [Instr.sliceBound,asIntOf,h1]
theorem AY3 {x lo hi:Operand} {T:TypeId} {l:List UInt8} {k k':IntKind} {a b:Nat} (hx:rev r x=some (.string (bs l))) (hlo:rev r lo=some (.int k a)) (hhi:rev r hi=some (.int k' b)) (hT:P.underlying T=some .string) (hab:a≤b) (hb:b≤l.length) :
  Val P r W chg news { dst,op:=.slice T x (some lo) (some hi) none,type:=ty,pos,after,guard:=gd } (.string (bs ((l.drop a).take (b - a)))) :=
 ⟨fun ac w ha _=>by
  simp [execOp,ha.eval hx,ha.eval hlo,ha.eval hhi,Instr.sliceAt,Instr.slice,Instr.sliceBounds,run_underlying hT,Ar3 (P:=P) (y:=(bs l).size) (w:=w) (v:=Value.int k' (b:Int)) rfl (by rw [AI3];exact hb),Ar3 (P:=P) (y:=b) (w:=w) (v:=Value.int k (a:Int)) rfl hab,AV1]⟩
theorem BO7 {x hi:Operand} {T:TypeId} {l:List UInt8} {k':IntKind} {b:Nat} (hx:rev r x=some (.string (bs l))) (hhi:rev r hi=some (.int k' b)) (hT:P.underlying T=some .string) (hb:b≤l.length) :
  Val P r W chg news { dst,op:=.slice T x none (some hi) none,type:=ty,pos,after,guard:=gd } (.string (bs (l.take b))) :=
 ⟨fun ac w ha _=>by
  simp [execOp,ha.eval hx,ha.eval hhi,Instr.sliceAt,Instr.slice,Instr.sliceBounds,run_underlying hT,Ar3 (P:=P) (y:=(bs l).size) (w:=w) (v:=Value.int k' (b:Int)) rfl (by rw [AI3];exact hb),AV1]⟩
theorem AO6 {x lo:Operand} {T:TypeId} {l:List UInt8} {k:IntKind} {a:Nat} (hx:rev r x=some (.string (bs l))) (hlo:rev r lo=some (.int k a)) (hT:P.underlying T=some .string) (ha':a≤l.length) :
  Val P r W chg news { dst,op:=.slice T x (some lo) none none,type:=ty,pos,after,guard:=gd } (.string (bs (l.drop a))) :=
 ⟨fun ac w ha _=>by
  have e:(l.drop a).take ((bs l).size - a)=l.drop a:=by rw [AI3];exact List.take_of_length_le (by simp)
  simp [execOp,ha.eval hx,ha.eval hlo,Instr.sliceAt,Instr.slice,Instr.sliceBounds,run_underlying hT,Ar3 (P:=P) (y:=(bs l).size) (w:=w) (v:=Value.int k (a:Int)) rfl (by rw [AI3];exact ha'),AV1,e]⟩
theorem Cw5 {x y:Operand} {T yt:TypeId} {a b:List UInt8} (hx:rev r x=some (.string (bs a))) (hy:rev r y=some (.string (bs b))) (h:a.length + b.length≤9223372036854775807) :
  Val P r W chg news { dst,op:=.binOp .add T x y yt,type:=ty,pos,after,guard:=gd } (.string (bs (a++b))) :=
 ⟨fun ac w ha _=>by
  have h1:¬ (((bs a).size + (bs b).size:Nat):Int) > IntKind.i64.max:=by
   rw [AI3,AI3]
   have:IntKind.i64.max=9223372036854775807:=by decide
   omega
  have h2:(Op.stringOp .add (bs a) (bs b)).run P w = .ok (.string (bs (a++b))) w:=by
   unfold Op.stringOp;simp only [if_neg h1,Sem.run_pure,CV9]
  simp [execOp,ha.eval hx,ha.eval hy,eqGuard,binOp_string_add,h2]⟩
theorem AL0 {x y:Operand} {T yt:TypeId} {a b:List UInt8} (hx:rev r x=some (.string (bs a))) (hy:rev r y=some (.string (bs b))) :
  Val P r W chg news { dst,op:=.binOp .eql T x y yt,type:=ty,pos,after,guard:=gd } (.bool (decide (a=b))) :=
 ⟨fun ac w ha _=>by
  have e:(a == b)=decide (a=b):=by rw [Bool.eq_iff_iff];simp
  simp [execOp,ha.eval hx,ha.eval hy,eqGuard,binOp_string_eql,BN5,e]⟩
theorem AV7 {x y:Operand} {T yt:TypeId} {a b:List UInt8} (hx:rev r x=some (.string (bs a))) (hy:rev r y=some (.string (bs b))) :
  Val P r W chg news { dst,op:=.binOp .neq T x y yt,type:=ty,pos,after,guard:=gd } (.bool (!decide (a=b))) :=
 ⟨fun ac w ha _=>by
  have e:(a == b)=decide (a=b):=by rw [Bool.eq_iff_iff];simp
  simp [execOp,ha.eval hx,ha.eval hy,eqGuard,binOp_string_neq,BN5,e]⟩
end
def pk (p:Nat×Nat):Value:=.agg #[.int .i64 (p.1:Int),.int .u64 (p.2:Int)]
def entsG:Nat→List ((Nat×Nat)×Value)→List MapEntry
 | _,[]=>[]
 | i,x::l=>{ key:=pk x.1,val:=x.2,born:=i }::entsG (i + 1) l
def mapG (l:List ((Nat×Nat)×Value)):Obj:=.map (entsG 0 l).toArray l.length
def gIdx:List ((Nat×Nat)×Value)→Nat×Nat→Option (Nat×Value)
 | [],_=>none
 | x::l,a=>if x.1=a then some (0,x.2) else (gIdx l a).map fun p=>(p.1 + 1,p.2)
def gFind (l:List ((Nat×Nat)×Value)) (a:Nat×Nat):Option Value:=(gIdx l a).map (·.2)
theorem Bq5:∀ (l:List ((Nat×Nat)×Value)) (i:Nat) (x:(Nat×Nat)×Value),entsG i (l++[x])=entsG i l++[{ key:=pk x.1,val:=x.2,born:=i + l.length }]
 | [],i,x=>by simp [entsG]
 | y::l,i,x=>by
   simp only [List.cons_append,entsG,Bq5 l (i + 1) x,List.length_cons];rw [show i + 1 + l.length=i + (l.length + 1) by omega]
theorem CL5 {l:List ((Nat×Nat)×Value)} {a:Nat×Nat} {v:Value} (h:gFind l a=some v):(a,v)∈l:=by
 induction l with
 | nil=>cases h
 | cons x l ih =>
   unfold gFind gIdx at h
   split at h
   · rename_i hx
     simp at h
     subst hx h;simp
   · rw [Option.map_map] at h
     have h2:gFind l a=some v:=by
      unfold gFind
      cases hg:gIdx l a with
      | none=>rw [hg] at h;cases h
      | some p=>rw [hg] at h;simpa using h
     exact List.mem_cons_of_mem _ (ih h2)
theorem CL4 {l:List ((Nat×Nat)×Value)} {a:Nat×Nat} (h:∀ e∈l,e.1 ≠ a):gIdx l a=none:=by
 induction l with
 | nil=>rfl
 | cons x l ih =>
   unfold gIdx;rw [if_neg (h x (by simp)),ih (fun e he=>h e (List.mem_cons_of_mem _ he))];rfl
theorem BX2 {l:List ((Nat×Nat)×Value)} {a:Nat×Nat} (h:gFind l a=none):∀ e∈l,e.1 ≠ a:=by
 induction l with
 | nil=>intro e he;cases he
 | cons x l ih =>
   unfold gFind gIdx at h
   split at h
   · simp at h
   · rename_i hx
     intro e he
     rcases List.mem_cons.1 he with rfl | he
     · exact hx
     · refine ih ?_ e he
       unfold gFind
       cases hg:gIdx l a with
       | none=>rfl
       | some p=>rw [hg] at h;simp at h
def keyPairB (P:Program) (k:TypeId):Bool:=match P.underlying k with
 | some (.struct fs)=>match fs.toList with
   | [f,g]=>decide (f.name ≠ "_") && decide (g.name ≠ "_") && f.offset == 0 && g.offset == 1 && (P.underlying f.type).any isIntD && (P.underlying g.type).any isIntD
   | _=>false
 | _=>false
def mapKB (P:Program) (T:TypeId):Option (TypeId×TypeId):=match P.underlying T with
 | some (.map k e)=>some (k,e)
 | _=>none
structure Keyed (P:Program) (T k E:TypeId):Prop where
 map:mapKB P T=some (k,E)
 fields:keyPairB P k=true
 agg:aggB P k=true
 eq:∀ a b c d:Int,eqF P 8 k [.int .i64 a,.int .u64 b] [.int .i64 c,.int .u64 d]=some (decide (a=c) && (decide (b=d) && true))
section
variable {P:Program} {ops:Array Oper} {Q:Exit→Act→World→Prop} {n:Nat} {r:Regs} {ds:List Deferred} {W:World} {chg news:Blks} {rest:List Oper}
variable {d:Nat} {ty:TypeId} {pos:String} {after:Array Edge} {dst:Option Tmp} {gd:Option (Nat×Bool)}
theorem Keyed.und {T k E:TypeId} (h:Keyed P T k E):P.underlying T=some (.map k E):=by
 have:=h.map
 unfold mapKB at this
 split at this
 · rename_i hu;cases this;exact hu
 · cases this
theorem Keyed.str {T k E:TypeId} (h:Keyed P T k E):∃ f g q q',P.underlying k=some (.struct #[f,g])∧f.name ≠ "_"∧g.name ≠ "_"∧f.offset=0∧g.offset=1∧P.underlying f.type=some (.int q)∧P.underlying g.type=some (.int q'):=by
 have h1:=h.fields;unfold keyPairB at h1
 split at h1
 · rename_i fs hu
   split at h1
   · rename_i f g hfs
     simp only [Bool.and_eq_true,decide_eq_true_eq,beq_iff_eq] at h1;obtain ⟨⟨⟨⟨⟨a1,a2⟩,a3⟩,a4⟩,a5⟩,a6⟩:=h1;obtain ⟨q,hq⟩:=AV5 a5;obtain ⟨q',hq'⟩:=AV5 a6
     have e:fs = #[f,g]:=by
      have:=congrArg List.toArray hfs
      simpa using this
     exact ⟨f,g,q,q',by rw [hu,e],a1,a2,a3,a4,hq,hq'⟩
   · cases h1
 · cases h1
theorem Keyed.same {T k E:TypeId} (h:Keyed P T k E) (a b:Nat×Nat) (w:World):(Op.equal k (pk a) (pk b)).run P w = .ok (decide (a=b)) w:=by
 have h1:=BU5 9992 8 k _ _ _ w (h.eq (a.1:Int) (a.2:Int) (b.1:Int) (b.2:Int));rw [(Ax3 h.agg _).2,(Ax3 h.agg _).2] at h1
 have e:decide (a=b)=(decide ((a.1:Int)=b.1) && (decide ((a.2:Int)=b.2) && true)):=by
  rw [Bool.eq_iff_iff];simp only [Bool.and_eq_true,decide_eq_true_eq,and_true,Prod.ext_iff];omega
 rw [e];exact h1
theorem Keyed.check {T k E:TypeId} (h:Keyed P T k E) (e:Bool) (a:Nat×Nat) (w:World):(Instr.checkKey e 10000 k (pk a)).run P w = .ok () w:=by
 obtain ⟨f,g,q,q',hu,n1,n2,o1,o2,u1,u2⟩:=h.str
 have hi:∀ (t:TypeId) (q:IntKind) (kk:IntKind) (v:Int),P.underlying t=some (.int q)→(Instr.checkKey e 9999 t (.int kk v)).run P w = .ok () w:=fun t q kk v hq=>by
  rw [show (9999:Nat)=9998 + 1 from rfl];unfold Instr.checkKey;simp [run_underlying hq]
 have p1:(part f.type #[.int .i64 (a.1:Int),.int .u64 (a.2:Int)] 0).run P w = .ok (.int .i64 (a.1:Int)) w:=Am9 u1 rfl rfl;have p2:(part g.type #[.int .i64 (a.1:Int),.int .u64 (a.2:Int)] 1).run P w = .ok (.int .u64 (a.2:Int)) w:=Am9 u2 rfl rfl;rw [show (10000:Nat)=9999 + 1 from rfl];unfold Instr.checkKey pk;simp [run_underlying hu,n1,n2,o1,o2,p1,p2,hi _ _ _ _ u1,hi _ _ _ _ u2]
theorem Keyed.asking {T k E:TypeId} (h:Keyed P T k E) (a:Nat×Nat) (w:World):∀ (l:List ((Nat×Nat)×Value)) (i j:Nat),(Instr.findAsking k (pk a) (entsG i l) j).run P w = .ok ((gIdx l a).map fun p=>(j + p.1,p.2)) w
 | [],_,_=>rfl
 | x::l,i,j=>by
   unfold entsG Instr.findAsking gIdx;have h1:=h.same a x.1 w
   by_cases hx:x.1=a
   · subst hx
     simp at h1
     simp [h1]
   · have hx2:¬ a=x.1:=fun e=>hx e.symm
     simp only [hx2,decide_false] at h1;simp only [Sem.run_bind,h1,Result.andThen_ok,Bool.false_eq_true,if_false,if_neg hx,Keyed.asking h a w l (i + 1) (j + 1)]
     cases gIdx l a with
     | none=>rfl
     | some p=>simp;omega
theorem Keyed.find {T k E:TypeId} (h:Keyed P T k E) (a:Nat×Nat) (l:List ((Nat×Nat)×Value)) (w:World):(Instr.findKey k (pk a) (entsG 0 l)).run P w = .ok (gIdx l a) w:=by
 obtain ⟨f,g,q,q',hu,_⟩:=h.str;have h2:=h.asking a w l 0 0;have e:((gIdx l a).map fun p=>(0 + p.1,p.2))=gIdx l a:=by cases gIdx l a <;> simp
 rw [e] at h2
 cases l with
 | nil=>simp [Instr.findKey,run_underlying hu,entsG,Instr.findNow,gIdx]
 | cons x l =>
   have h3:Instr.findNow (.struct #[f,g]) (pk a) (entsG 0 (x::l)) 0=none:=by
    unfold entsG Instr.findNow;rfl
   simp [Instr.findKey,run_underlying hu,h3,h2]
theorem Cc0 {x i:Operand} {T k E:TypeId} {b:Nat} {l:List ((Nat×Nat)×Value)} {a:Nat×Nat} {z:Value} (hx:rev r x=some (.map (some b))) (hi:rev r i=some (pk a)) (hb:∀ w,Mem W chg news w→w.heap[b]? = some (mapG l)) (hT:Keyed P T k E) (hz:zeroV P E=some z) :
  Val P r W chg news { dst,op:=.lookup T x i true,type:=ty,pos,after,guard:=gd } (.tuple #[(gFind l a).getD z,.bool (gFind l a).isSome]) :=
 ⟨fun ac w ha hm=>by
  have hbb:w.heap[b]? = some (.map (entsG 0 l).toArray l.length):=hb w hm
  have hzz:(zeroValue E).run P w = .ok z w:=by
   unfold zeroV at hz
   cases hi:P.info? E with
   | none=>simp [hi] at hz
   | some i =>
     simp [hi] at hz
     simp [zeroValue,typeInfo,hi,hz]
  unfold gFind;simp only [execOp,ha.eval hx,ha.eval hi,Instr.lookup,Sem.run_bind,run_underlying hT.und,Result.andThen_ok,MapKept.run_getObj_map hbb,Sem.run_pure,hT.check,hT.find]
  cases h:gIdx l a with
  | none=>simp [hzz]
  | some p=>simp⟩
theorem Be1 {w:World} {T k E:TypeId} {b:Nat} {l:List ((Nat×Nat)×Value)} {a:Nat×Nat} {v:Value} (hb:w.heap[b]? = some (mapG l)) (hT:Keyed P T k E) (hk:gIdx l a=none) :
  (Instr.mapUpdate T (.map (some b)) (pk a) v).run P w = .ok () { w with heap:=w.heap.setIfInBounds b (mapG (l++[(a,v)])) }:=by
 have e1:mapG (l++[(a,v)]) = .map ((entsG 0 l).toArray.push { key:=pk a,val:=v,born:=l.length }) (l.length + 1):=by
  unfold mapG;rw [Bq5];simp
 unfold mapG at hb;rw [e1];have hf:=hT.find a l w;rw [hk] at hf;simp only [Instr.mapUpdate,Sem.run_bind,run_underlying hT.und,Result.andThen_ok,MapKept.run_getObj_map hb,hT.check,hf,MapKept.run_setObj_map _ hb]
theorem BP5 {x i y:Operand} {T k E:TypeId} {b:Nat} {l:List ((Nat×Nat)×Value)} {a:Nat×Nat} {v:Value} {chg':Blks} (hx:rev r x=some (.map (some b))) (hi:rev r i=some (pk a)) (hy:rev r y=some v) (hu:Upd chg b (mapG l) (mapG (l++[(a,v)])) chg') (hT:Keyed P T k E) (hk:gIdx l a=none) :
  Sto P r W chg news { dst,op:=.mapUpdate T x i y,type:=ty,pos,after,guard:=gd } chg' news :=
 ⟨fun ac w ha hm=>by
  have hb:=(hm.chgd _ _ hu.mem).2;obtain ⟨s1,s2⟩:=Aj7 (o':=mapG (l++[(a,v)])) hb;refine ⟨{ w with heap:=w.heap.setIfInBounds b (mapG (l++[(a,v)])) },by simp [execOp,ha.eval hx,ha.eval hi,ha.eval hy,Be1 hb hT hk],hm.upd_chg hu rfl rfl rfl (by simp) (fun k _ hk=>s2 k hk) s1⟩⟩
theorem AI8 {T:TypeId}:New P r W chg news { dst,op:=.makeMap T none,type:=ty,pos,after,guard:=gd } (fun b=>.map (some b)) (mapG []) :=
 ⟨fun a w _ _=>by simp [execOp,Instr.makeMap,newObj,Sem.run,mapG,entsG]⟩
end
def TurnsZ {β:Type} (b:Nat) (ob:β→Obj) (v:β→Value) (I:β→Prop) (W:World) (e:Ending) (w:World):Prop:=∃ x,I x∧e = .returned (v x)∧Mem W [(b,ob x)] [] w
section
variable {P:Program} {ops:Array Oper} {Q:Exit→Act→World→Prop} {n:Nat} {r:Regs} {ds:List Deferred} {W:World} {chg news:Blks} {rest:List Oper} {d:Nat}
theorem Aw0 {β:Type} {o:Oper} {f:FuncId} {args:Array Value} {v:β→Value} {I:β→Prop} {b:Nat} {o0:Obj} {ob:β→Obj} {nf:β→Blks} (hi:IsCall P r o f args) (hg:guardB ops r o.guard=some true) (hd:o.dst=some d) (hn:Nat.ble (d + 1) n=true)
  (hu:∀ x,Upd news b o0 (ob x) (nf x)) (hc:∀ w,Mem W chg news w→Calls P f args w (TurnsZ b ob v I w)) (h:∀ x,I x→RunL P ops Q n rest ((d,v x)::r) ds W chg (nf x)):RunL P ops Q n (o::rest) r ds W chg news :=
 RunL.call hg hd (fun a w s=>hi.runs a w s.agree) hc (fun a w e w' s hR=>by
  obtain ⟨x,hx,rfl,hm⟩:=hR;have s2:=s.put (Nat.le_of_ble_eq_true hn) (v x);exact h x hx _ _ ⟨s2.size,s2.agree,s2.defers,s.mem.turn_new (hu x) hm⟩)
variable {K:Act→World→Prop} {i:Nat}
theorem Bm0 {β:Type} {o:Oper} {f:FuncId} {args:Array Value} {v:β→Value} {I:β→Prop} {b:Nat} {o0:Obj} {ob:β→Obj} {cf:β→Blks} (ho:ops[i]? = some o) (hi:IsCall P r o f args) (hg:guardB ops r o.guard=some true) (hd:o.dst=some d) (hn:Nat.ble (d + 1) n=true)
  (hu:∀ x,Upd chg b o0 (ob x) (cf x)) (hc:∀ w,Mem W chg news w→Calls P f args w (TurnsZ b ob v I w)) (h:∀ x,I x→RunK n K ((d,v x)::r) ds W (cf x) news):RunI P ops Q n i K r ds W chg news :=
 RunI.call ho hi hg hc (fun a w e w' s hR=>by
  obtain ⟨x,hx,rfl,hm⟩:=hR;have s2:=s.put (Nat.le_of_ble_eq_true hn) (v x);simp only [hd];exact h x hx _ _ ⟨s2.size,s2.agree,s2.defers,s.mem.turn_chg (hu x) hm⟩)
theorem Bk4 {β:Type} {fn:Func} {b:Nat} {ob:β→Obj} {o:Obj} {v:β→Value} {I:β→Prop} (x:β) (hx:I x) {u:Value} (ho:o=ob x) (hv:ResVs P r ([(b,o)]++news) fn u) (he:u=v x):RunE (bodyPost P fn (TurnsZ b ob v I W)) n .ret r [] W [(b,o)] news :=
 RunE.ret (chg:=[(b,o)]) hv (fun _ hm=>⟨x,hx,by rw [he],by rw [← ho];exact hm.drop⟩)
theorem AN2 {w:World} {T e:TypeId} {b:Addr} {k c:Nat} (hT:P.underlying T=some (.slice e)):(Op.equal T (.slice (some b) k c) (.slice none 0 0)).run P w = .ok false w:=by
 have h:∀ d,(Op.equalIn (d + 1) T (.slice (some b) k c) (.slice none 0 0)).run P w = .ok false w:=fun d=>by simp [Op.equalIn,run_underlying hT]
 exact h 9999
variable {ty:TypeId} {pos:String} {after:Array Edge} {dst:Option Tmp} {gd:Option (Nat×Bool)}
theorem AA4 {x:Operand} {T yt e:TypeId} {b:Addr} {k c:Nat} (hx:rev r x=some (.slice (some b) k c)) (hT:P.underlying T=some (.slice e)) :
  Val P r W chg news { dst,op:=.binOp .eql T x (.const (.slice none 0 0)) yt,type:=ty,pos,after,guard:=gd } (.bool false) :=
 ⟨fun a w ha _=>by
  have h:=AN2 (P:=P) (w:=w) (b:=b) (k:=k) (c:=c) hT;simp [execOp,ha.eval hx,BigFrame.eval_const,eqGuard,binOp,h]⟩
theorem Pick.app {r l:Blks} (h:Pick r l):∀ a:Blks,Pick (a++r) (a++l)
 | []=>h
 | (_,_)::a=>qC (Pick.app h a)
end
section
variable {P:Program} {r:Regs} {W:World} {chg news:Blks} {dst:Option Tmp} {gd:Option (Nat×Bool)} {ty:TypeId} {pos:String} {after:Array Edge}
theorem Ak0 {x:Operand} {T e:TypeId} {sz s2 n:Nat} {z:Own} {xs:List Value} (hx:rev r x=some (ownV z n)) (hT:slB P T=some (e,sz)) (h:OwnOk s2 z n xs) :
  Val P r W chg news { dst,op:=.call { callee:=.builtin .len,args:=#[x],argTypes:=#[T] },type:=ty,pos,after,guard:=gd } (.int .i64 (n:Int)):=by
 rw [Ad3 h] at hx;exact Ae3 hx hT
theorem Cc8 {ops:Array Oper} {Q:Exit→Act→World→Prop} {n:Nat} {ds:List Deferred} {rest:List Oper} {d:Nat} {β:Type} {o:Oper} {f:FuncId} {args:Array Value} {v:β→Value} {U:β→Blks} (A T:Blks) (hne:news=A++T) (hi:IsCall P r o f args) (hg:guardB ops r o.guard=some true) (hd:o.dst=some d) (hn:Nat.ble (d + 1) n=true)
  (hc:∀ w,Mem W chg news w→Calls P f args w (News v (fun b=>U b++[]) w)) (h:∀ b,RunL P ops Q n rest ((d,v b)::r) ds W chg (A++(U b++T))):RunL P ops Q n (o::rest) r ds W chg news :=
 RunL.call hg hd (fun a w s=>hi.runs a w s.agree) hc (fun a w e w' s hR=>by
  obtain ⟨b,rfl,hm⟩:=hR;have s2:=s.put (Nat.le_of_ble_eq_true hn) (v b);have h1:Mem W chg ((U b++[])++news) w':=s.mem.trans hm;rw [List.append_nil,hne] at h1;exact h b _ _ ⟨s2.size,s2.agree,s2.defers,h1.perm (List.perm_append_comm_assoc _ _ _)⟩)
theorem Xo {ops:Array Oper} {Q:Exit→Act→World→Prop} {n:Nat} {ds:List Deferred} {rest:List Oper} {d:Nat} {β:Type} {o:Oper} {f:FuncId} {args:Array Value} {v:β→Value} {U:β→Blks} (A T:Blks) (hne:news=A++T) (hi:IsCall P r o f args) (hc:∀ w,Mem W chg news w→Calls P f args w (News v (fun b=>U b++[]) w)) (h:∀ b,RunL P ops Q n rest ((d,v b)::r) ds W chg (A++(U b++T))) (hg:guardB ops r o.guard=some true:=by rfl) (hd:o.dst=some d:=by rfl) (hn:Nat.ble (d + 1) n=true:=by rfl) :
  RunL P ops Q n (o::rest) r ds W chg news:=Cc8 (A:=A) (T:=T) (hne:=hne) (hi:=hi) (hg:=hg) (hd:=hd) (hn:=hn) (hc:=hc) (h:=h)
theorem Dh1 (z:Value) (n:Nat):madeCells #[z] (n * 1)=(List.replicate n z).toArray:=by
 unfold madeCells;refine Array.ext (by simp) fun i h1 h2=>?_
 simp [Nat.mod_one]
theorem New.makeSlice {x y:Operand} {T e:TypeId} {n by_:Nat} {z:Value} {kx ky:IntKind} (hx:rev r x=some (.int kx (n:Int))) (hy:rev r y=some (.int ky (n:Int))) (hT:apB P T=some (e,1,by_)) (hz:zeroB P e=some [z]) (hn:n≤1000000) (hb:by_≤1000) :
  New P r W chg news { dst,op:=.makeSlice T x y,type:=ty,pos,after,guard:=gd } (fun b=>.slice (some ⟨b,0,none⟩) n n) (.cells (List.replicate n z).toArray e (0,0)) :=
 ⟨fun a w ha _=>by
  obtain ⟨hu,i,zz,hi,hzi,h2,h3,_,_⟩:=BB2 hT;unfold zeroB at hz;simp only [hi,hzi,Option.bind_some,Option.map_some,Option.some.injEq] at hz
  have hz2:zz.cells = #[z]:=by
   apply Array.toList_inj.1
   rw [hz]
  have hb2:(i.bytes:Int) * (n:Int)≤281474976710656:=by
   have h4:i.bytes * n≤1000 * 1000000:=Nat.mul_le_mul (by omega) hn;have h5:((i.bytes * n:Nat):Int)≤281474976710656:=by omega
   rwa [Int.natCast_mul] at h5
  have hr:=run_makeSlice (P:=P) w T e i zz hu hi hzi kx ky n n (by omega) (Int.le_refl _) (by rw [h2];omega) hb2 (by omega);rw [h2,hz2,Int.toNat_natCast,Dh1] at hr;simp [execOp,ha.eval hx,ha.eval hy,hr]⟩
end
def isStrD:TypeDesc→Bool
 | .string=>true
 | _=>false
def sEntsF:Nat→List (List UInt8×Value)→List MapEntry
 | _,[]=>[]
 | i,x::l=>{ key:=.string (bs x.1),val:=x.2,born:=i }::sEntsF (i + 1) l
def mapS (l:List (List UInt8×Value)):Obj:=.map (sEntsF 0 l).toArray l.length
def sIdx:List (List UInt8×Value)→List UInt8→Option (Nat×Value)
 | [],_=>none
 | x::l,a=>if x.1=a then some (0,x.2) else (sIdx l a).map fun p=>(p.1 + 1,p.2)
def sFind (l:List (List UInt8×Value)) (a:List UInt8):Option Value:=(sIdx l a).map (·.2)
theorem Bn8:∀ (l:List (List UInt8×Value)) (i:Nat) (x:List UInt8×Value),sEntsF i (l++[x])=sEntsF i l++[{ key:=.string (bs x.1),val:=x.2,born:=i + l.length }]
 | [],i,x=>by simp [sEntsF]
 | y::l,i,x=>by
   simp only [List.cons_append,sEntsF,Bn8 l (i + 1) x,List.length_cons];rw [show i + 1 + l.length=i + (l.length + 1) by omega]
theorem AE6 (a:List UInt8):∀ (l:List (List UInt8×Value)) (i j:Nat),Instr.findNow .string (.string (bs a)) (sEntsF i l) j=some ((sIdx l a).map fun p=>(j + p.1,p.2))
 | [],_,_=>rfl
 | x::l,i,j=>by
   unfold sEntsF Instr.findNow sIdx
   by_cases h:x.1=a
   · have h2:(bs a == bs x.1)=true:=(MapKept.bytes_beq _ _).2 (by rw [h])
     simp only [Instr.sameNow,h2,if_pos h,Option.map_some,Nat.add_zero]
   · have h2:(bs a == bs x.1)=false:=by
      rw [Bool.eq_false_iff];exact fun e=>h (DT6.1 ((MapKept.bytes_beq _ _).1 e)).symm
     simp only [Instr.sameNow,h2,if_neg h];rw [AE6 a l (i + 1) (j + 1)]
     cases sIdx l a with
     | none=>rfl
     | some p=>simp;omega
def mapSB (P:Program) (T:TypeId):Option TypeId:=match P.underlying T with
 | some (.map k e)=>if (P.underlying k).any isStrD then some e else none
 | _=>none
theorem Bp2 {P:Program} {T E:TypeId} (h:mapSB P T=some E):∃ k,P.underlying T=some (.map k E)∧P.underlying k=some .string:=by
 unfold mapSB at h
 split at h
 · rename_i k e hu
   split at h
   · rename_i hk
     cases h
     refine ⟨k,hu,?_⟩
     cases hd:P.underlying k with
     | none=>rw [hd] at hk;cases hk
     | some d=>rw [hd] at hk;cases d <;> first | rfl | cases hk
   · cases h
 · cases h
section
variable {P:Program} {ops:Array Oper} {Q:Exit→Act→World→Prop} {n:Nat} {r:Regs} {ds:List Deferred} {W:World} {chg news:Blks} {rest:List Oper}
variable {d:Nat} {ty:TypeId} {pos:String} {after:Array Edge} {dst:Option Tmp} {gd:Option (Nat×Bool)}
theorem Bl6 {w:World} {T E:TypeId} {b:Nat} {l:List (List UInt8×Value)} {a:List UInt8} {z:Value} {ok:Bool} (hb:w.heap[b]? = some (mapS l)) (hT:mapSB P T=some E) (hz:zeroV P E=some z) :
  (Instr.lookup T (.map (some b)) (.string (bs a)) ok).run P w = .ok (if ok then .tuple #[(sFind l a).getD z,.bool (sFind l a).isSome] else (sFind l a).getD z) w:=by
 obtain ⟨k,hu,hq⟩:=Bp2 hT
 have hzz:(zeroValue E).run P w = .ok z w:=by
  unfold zeroV at hz
  cases hi:P.info? E with
  | none=>simp [hi] at hz
  | some i =>
    simp [hi] at hz
    simp [zeroValue,typeInfo,hi,hz]
 have hf:(Instr.findKey k (.string (bs a)) (sEntsF 0 l)).run P w = .ok (sIdx l a) w:=by
  have:=AE6 a l 0 0
  refine (MapKept.run_findKey hq this).trans ?_
  cases sIdx l a <;> simp
 have hc:∀ e,(Instr.checkKey e 10000 k (.string (bs a))).run P w = .ok () w:=fun e=>by
  rw [show (10000:Nat)=9999 + 1 from rfl];unfold Instr.checkKey;simp [run_underlying hq]
 unfold mapS at hb;unfold sFind;simp only [Instr.lookup,Sem.run_bind,run_underlying hu,Result.andThen_ok,MapKept.run_getObj_map hb,Sem.run_pure];rw [hc];simp only [Result.andThen_ok,hf]
 cases h:sIdx l a with
 | none=>cases ok <;> simp [hzz]
 | some p=>cases ok <;> simp
theorem BB5 {x i:Operand} {T E:TypeId} {b:Nat} {l:List (List UInt8×Value)} {a:List UInt8} {z:Value} (hx:rev r x=some (.map (some b))) (hi:rev r i=some (.string (bs a))) (hb:∀ w,Mem W chg news w→w.heap[b]? = some (mapS l)) (hT:mapSB P T=some E) (hz:zeroV P E=some z) :
  Val P r W chg news { dst,op:=.lookup T x i true,type:=ty,pos,after,guard:=gd } (.tuple #[(sFind l a).getD z,.bool (sFind l a).isSome]) :=
 ⟨fun ac w ha hm=>by
  have h1:=Bl6 (P:=P) (ok:=true) (a:=a) (hb w hm) hT hz;simp at h1
  simp [execOp,ha.eval hx,ha.eval hi,h1]⟩
theorem AB4 {x i:Operand} {T E:TypeId} {b:Nat} {l:List (List UInt8×Value)} {a:List UInt8} {z v:Value} (hx:rev r x=some (.map (some b))) (hi:rev r i=some (.string (bs a))) (hb:∀ w,Mem W chg news w→w.heap[b]? = some (mapS l)) (hT:mapSB P T=some E) (hz:zeroV P E=some z) (ho:Value.tuple #[(sFind l a).getD z,.bool (sFind l a).isSome]=v) :
  Val P r W chg news { dst,op:=.lookup T x i true,type:=ty,pos,after,guard:=gd } v:=ho ▸ BB5 hx hi hb hT hz
theorem BQ7 {T:TypeId}:New P r W chg news { dst,op:=.makeMap T none,type:=ty,pos,after,guard:=gd } (fun b=>.map (some b)) (mapS []) :=
 ⟨fun a w _ _=>by simp [execOp,Instr.makeMap,newObj,Sem.run,mapS,sEntsF]⟩
theorem AT4 {w:World} {T E:TypeId} {b:Nat} {l:List (List UInt8×Value)} {a:List UInt8} {v:Value} (hb:w.heap[b]? = some (mapS l)) (hT:mapSB P T=some E) (hk:sIdx l a=none) :
  (Instr.mapUpdate T (.map (some b)) (.string (bs a)) v).run P w = .ok () { w with heap:=w.heap.setIfInBounds b (mapS (l++[(a,v)])) }:=by
 obtain ⟨k,hu,hq⟩:=Bp2 hT
 have hf:(Instr.findKey k (.string (bs a)) (sEntsF 0 l)).run P w = .ok none w:=by
  have:=AE6 a l 0 0
  rw [hk] at this;exact MapKept.run_findKey hq this
 have hc:∀ e,(Instr.checkKey e 10000 k (.string (bs a))).run P w = .ok () w:=fun e=>by
  rw [show (10000:Nat)=9999 + 1 from rfl];unfold Instr.checkKey;simp [run_underlying hq]
 have e1:mapS (l++[(a,v)]) = .map ((sEntsF 0 l).toArray.push { key:=.string (bs a),val:=v,born:=l.length }) (l.length + 1):=by
  unfold mapS;rw [Bn8];simp
 unfold mapS at hb;rw [e1];simp only [Instr.mapUpdate,Sem.run_bind,run_underlying hu,Result.andThen_ok,MapKept.run_getObj_map hb,hc,hf,MapKept.run_setObj_map _ hb]
end
open Classical in
theorem Pick.cnt:∀ {l l':Blks} (_:∀ x,l.count x≤l'.count x),Pick l l'
 | [],_,_=>.nil
 | (b,o)::l,l',h=>by
   have h1:(b,o)∈l':=by
    have:=h (b,o)
    rw [List.count_cons_self] at this;exact List.count_pos_iff.1 (by omega)
   have take:∀ {l':Blks},(b,o)∈l'→∃ l2,Take (b,o) l' l2:=by
    intro l'
    induction l' with
    | nil=>intro h;cases h
    | cons y l' ih =>
      intro h
      rcases List.mem_cons.1 h with rfl | h
      · exact ⟨_,.here⟩
      · obtain ⟨l2,h2⟩:=ih h;exact ⟨_,.there h2⟩
   obtain ⟨l2,h2⟩:=take h1;refine .cons h2 rfl (Pick.cnt fun x=>?_)
   have h3:=h x;rw [h2.perm.count_eq,List.count_cons,List.count_cons] at h3;omega
def Grow {β:Type} (W0:World) (chg:Blks) (v:β→Value) (nw:β→Blks) (I:β→Prop) (e:Ending) (w:World):Prop:=∃ b:β,I b∧e = .returned (v b)∧Mem W0 chg (nw b) w
def GrowT {β γ:Type} (W0:World) (chg:Blks) (v:β→Value) (nw:β→Blks) (I:β→Prop) (mis:Int→Value) (kk:γ→Int) (np:γ→Blks) (J:γ→Prop) (e:Ending) (w:World):Prop :=
 (∃ b:β,I b∧e = .returned (v b)∧Mem W0 chg (nw b) w)∨(∃ c:γ,J c∧e = .panicked [{ v:=mis (kk c),recovered:=false }]∧Mem W0 chg (np c) w)
section
variable {P:Program} {ops:Array Oper} {Q:Exit→Act→World→Prop} {n:Nat} {r:Regs} {ds:List Deferred} {W:World} {chg news:Blks} {rest:List Oper} {d:Nat}
theorem Ag9 {f:FuncId} {fn:Func} {c:Code} {vs:List Value} {R:Ending→World→Prop} {w:World} (hm:Mem W chg news w) (hf:P.funcs[f]? = some fn) (hb:fn.body=some c) (hn:Nat.ble vs.length fn.ntmps=true)
  (h:RunC P (bodyPost P fn R) fn.ntmps c (args0 0 vs) [] W chg news):Calls P f vs.toArray w R:=by
 have s:=Ay8 (Nat.le_of_ble_eq_true hn) (Mem.refl w) (vs:=vs);exact calls_of_wp hf hb (h _ _ ⟨s.size,s.agree,s.defers,hm⟩)
theorem Cx3 {β:Type} {o:Oper} {f:FuncId} {args:Array Value} {v:β→Value} {nw:β→Blks} {I:β→Prop} (hi:IsCall P r o f args) (hg:guardB ops r o.guard=some true) (hd:o.dst=some d) (hn:Nat.ble (d + 1) n=true)
  (hc:∀ w,Mem W chg news w→Calls P f args w (Grow W chg v nw I)) (h:∀ b,I b→RunL P ops Q n rest ((d,v b)::r) ds W chg (nw b)):RunL P ops Q n (o::rest) r ds W chg news :=
 RunL.call hg hd (fun a w s=>hi.runs a w s.agree) hc (fun a w e w' s hR=>by
  obtain ⟨b,hI,rfl,hm⟩:=hR;have s2:=s.put (Nat.le_of_ble_eq_true hn) (v b);exact h b hI _ _ ⟨s2.size,s2.agree,s2.defers,hm⟩)
theorem Xq {β:Type} {o:Oper} {f:FuncId} {args:Array Value} {v:β→Value} {nw:β→Blks} {I:β→Prop} (hi:IsCall P r o f args) (hc:∀ w,Mem W chg news w→Calls P f args w (Grow W chg v nw I)) (h:∀ b,I b→RunL P ops Q n rest ((d,v b)::r) ds W chg (nw b)) (hg:guardB ops r o.guard=some true:=by rfl) (hd:o.dst=some d:=by rfl) (hn:Nat.ble (d + 1) n=true:=by rfl) :
  RunL P ops Q n (o::rest) r ds W chg news:=Cx3 (hi:=hi) (hg:=hg) (hd:=hd) (hn:=hn) (hc:=hc) (h:=h)
theorem Cc9 {β γ:Type} {o:Oper} {f:FuncId} {args:Array Value} {v:β→Value} {nw:β→Blks} {I:β→Prop} {mis:Int→Value} {kk:γ→Int} {np:γ→Blks} {J:γ→Prop} (hi:IsCall P r o f args) (hg:guardB ops r o.guard=some true) (hd:o.dst=some d) (hn:Nat.ble (d + 1) n=true)
  (hc:∀ w,Mem W chg news w→Calls P f args w (GrowT W chg v nw I mis kk np J)) (hp:∀ c,J c→RunE Q n (.panic [{ v:=mis (kk c),recovered:=false }]) r ds W chg (np c)) (h:∀ b,I b→RunL P ops Q n rest ((d,v b)::r) ds W chg (nw b)):RunL P ops Q n (o::rest) r ds W chg news :=
 RunL.call hg hd (fun a w s=>hi.runs a w s.agree) hc (fun a w e w' s hR=>by
  rcases hR with ⟨b,hI,rfl,hm⟩ | ⟨c,hJ,rfl,hm⟩
  · have s2:=s.put (Nat.le_of_ble_eq_true hn) (v b)
    exact h b hI _ _ ⟨s2.size,s2.agree,s2.defers,hm⟩
  · exact hp c hJ a w' ⟨s.size,s.agree,s.defers,hm⟩)
theorem Xy {β γ:Type} {o:Oper} {f:FuncId} {args:Array Value} {v:β→Value} {nw:β→Blks} {I:β→Prop} {mis:Int→Value} {kk:γ→Int} {np:γ→Blks} {J:γ→Prop} (hi:IsCall P r o f args) (hc:∀ w,Mem W chg news w→Calls P f args w (GrowT W chg v nw I mis kk np J)) (hp:∀ c,J c→RunE Q n (.panic [{ v:=mis (kk c),recovered:=false }]) r ds W chg (np c)) (h:∀ b,I b→RunL P ops Q n rest ((d,v b)::r) ds W chg (nw b)) (hg:guardB ops r o.guard=some true:=by rfl) (hd:o.dst=some d:=by rfl) (hn:Nat.ble (d + 1) n=true:=by rfl) :
  RunL P ops Q n (o::rest) r ds W chg news:=Cc9 (hi:=hi) (hg:=hg) (hd:=hd) (hn:=hn) (hc:=hc) (hp:=hp) (h:=h)
theorem Cd2 {i:Nat} {K:Act→World→Prop} {β γ:Type} {o:Oper} {f:FuncId} {args:Array Value} {v:β→Value} {nw:β→Blks} {I:β→Prop} {mis:Int→Value} {kk:γ→Int} {np:γ→Blks} {J:γ→Prop} (ho:ops[i]? = some o) (hi:IsCall P r o f args) (hg:guardB ops r o.guard=some true) (hd:o.dst=some d) (hn:Nat.ble (d + 1) n=true)
  (hc:∀ w,Mem W chg news w→Calls P f args w (GrowT W chg v nw I mis kk np J)) (hp:∀ c,J c→RunE Q n (.panic [{ v:=mis (kk c),recovered:=false }]) r ds W chg (np c)) (h:∀ b,I b→RunK n K ((d,v b)::r) ds W chg (nw b)):RunI P ops Q n i K r ds W chg news :=
 RunI.call ho hi hg hc (fun a w e w' s hR=>by
  rcases hR with ⟨b,hI,rfl,hm⟩ | ⟨c,hJ,rfl,hm⟩
  · have s2:=s.put (Nat.le_of_ble_eq_true hn) (v b)
    simp only [hd];exact h b hI _ _ ⟨s2.size,s2.agree,s2.defers,hm⟩
  · exact hp c hJ a w' ⟨s.size,s.agree,s.defers,hm⟩)
theorem CX8 {β:Type} {fn:Func} {v:β→Value} {nw:β→Blks} {I:β→Prop} (x:β) (hx:I x) {u:Value} (hv:ResVs P r (chg++news) fn u) (he:u=v x) (hp:Pick (nw x) news):RunE (bodyPost P fn (Grow W chg v nw I)) n .ret r [] W chg news :=
 RunE.ret hv (fun _ hm=>⟨x,hx,by rw [he],hm.pick hp⟩)
theorem BQ5 {β:Type} {fn:Func} {v:β→Value} {nw:β→Blks} {I:β→Prop} (x:β) (hx:I x) {u:Value} (hv:ResVs P r (chg++news) fn u) (he:u=v x) (hp:Pick (nw x) news):RunE (bodyPost P fn (Grow W chg v nw I)) n .normal r [] W chg news :=
 Ak2 hv (fun _ hm=>⟨x,hx,by rw [he],hm.pick hp⟩)
section
variable {β γ:Type} {fn:Func} {v:β→Value} {nw:β→Blks} {I:β→Prop} {mis:Int→Value} {kk:γ→Int} {np:γ→Blks} {J:γ→Prop}
theorem Am0 (x:β) (hx:I x) {u:Value} (hv:ResVs P r (chg++news) fn u) (he:u=v x) (hp:Pick (nw x) news):RunE (bodyPost P fn (GrowT W chg v nw I mis kk np J)) n .ret r [] W chg news :=
 RunE.ret hv (fun _ hm=>.inl ⟨x,hx,by rw [he],hm.pick hp⟩)
theorem Ae7 (c:γ) (hc:J c) {k:Int} (hk:kk c=k) (hp:Pick (np c) news):RunE (bodyPost P fn (GrowT W chg v nw I mis kk np J)) n (.panic [{ v:=mis k,recovered:=false }]) r [] W chg news:=fun _ w s =>
 ⟨s.defers,.inr ⟨c,hc,by rw [hk],s.mem.pick hp⟩⟩
end
end
def wpAt (f:FuncId) (P:Program) (c:Code) (Q:Exit→Act→World→Prop) (a:Act) (w:World):Prop :=
 ∀ (b:Frame) (k:List Item) (cs:List Frame),b.roundOf=none→b.fn=f →
   ∃ e a' w',Q e a' w'∧ArrivesIn (Machine.fenced P (Fr none)) P (lone (b.atR a (.code c::k)) cs w) b k cs e a' w'
section
variable {f:FuncId} {P:Program} {Q:Exit→Act→World→Prop} {a:Act} {w:World}
theorem Ds4 {c:Code} {m:Nat} (h:c.wpIn (Fr none) m P Q a w):wpAt f P c Q a w:=fun b k cs hro _=>h b k cs hro trivial (room_wide _)
theorem Da6 {x y:Code} (h:wpAt f P x (Exit.then (wpAt f P y Q) Q) a w):wpAt f P (.seq x y) Q a w:=by
 intro b k cs hro hb;have h0:(lone (b.atR a (.code (.seq x y)::k)) cs w).fenced P (Fr none):=fenced_calm (n:=9) trivial (room_wide _) rfl;obtain ⟨e,a₁,w₁,hq,harr⟩:=h b (.code y::k) cs hro hb
 cases e with
 | normal =>
   obtain ⟨e₂,a₂,w₂,hq₂,harr₂⟩:=hq b k cs hro hb;exact ⟨e₂,a₂,w₂,hq₂,.of_steps (.head h0 stepR_seq harr) harr₂⟩
 | exit id=>exact ⟨_,a₁,w₁,hq,.of_steps (.one h0 stepR_seq) (.pass (x:=.code y) rfl (fun _ _=>.inl (by simp)) harr)⟩
 | goto l=>exact ⟨_,a₁,w₁,hq,.of_steps (.one h0 stepR_seq) (.pass (x:=.code y) rfl (fun _ _=>.inl (by simp)) harr)⟩
 | ret=>exact ⟨_,a₁,w₁,hq,.of_steps (.one h0 stepR_seq) (.pass (x:=.code y) rfl (fun _ _=>.inl (by simp)) harr)⟩
 | panic ch=>exact ⟨_,a₁,w₁,hq,.of_steps (.one h0 stepR_seq) (.pass (x:=.code y) rfl (fun _ _=>.inl (by simp)) harr)⟩
 | outgrown=>exact ⟨_,a₁,w₁,hq,.of_steps (.one h0 stepR_seq) (.pass (x:=.code y) rfl (fun _ _=>.inl (by simp)) harr)⟩
theorem Cl9 {id:Nat} {c:Code} (h:wpAt f P c (Exit.inBlock id Q) a w):wpAt f P (.block id c) Q a w:=by
 intro b k cs hro hb;have h0:(lone (b.atR a (.code (.block id c)::k)) cs w).fenced P (Fr none):=fenced_calm (n:=9) trivial (room_wide _) rfl;obtain ⟨e,a₁,w₁,hq,harr⟩:=h b (.inBlock id::k) cs hro hb
 cases e with
 | normal=>exact ⟨.normal,a₁,w₁,hq,.head h0 stepR_block (StepsIn.trans harr (.one (fenced_calm (n:=9) trivial (room_wide _) rfl) stepR_inBlock))⟩
 | exit id' =>
   by_cases hid:id'=id
   · simp only [Exit.inBlock,hid,if_true] at hq
     exact ⟨.normal,a₁,w₁,hq,.head h0 stepR_block (harr.1 k (by simp [exitTo,hid]))⟩
   · simp only [Exit.inBlock,hid,if_false] at hq
     have this:(id == id')=false:=by simp;exact fun h=>hid h.symm
     have hx:exitTo id' (.inBlock id::k)=exitTo id' k:=by simp [exitTo,this]
     exact ⟨.exit id',a₁,w₁,hq,fun k' hk=>.head h0 stepR_block (harr.1 k' (by rw [hx];exact hk)),
      fun hr' hk=>let ⟨k₁,h1,h2⟩:=harr.2 hr' (by rw [hx];exact hk);⟨k₁,h1,.head h0 stepR_block h2⟩⟩
 | goto l =>
   have hx:gotoIn l (.inBlock id::k)=gotoIn l k:=by simp [gotoIn]
   exact ⟨_,a₁,w₁,hq,fun k' hk=>.head h0 stepR_block (harr.1 k' (by rw [hx];exact hk)),
    fun hr' hk=>let ⟨k₁,h1,h2⟩:=harr.2 hr' (by rw [hx];exact hk);⟨k₁,h1,.head h0 stepR_block h2⟩⟩
 | ret=>exact ⟨_,a₁,w₁,hq,.of_steps (.one h0 stepR_block) harr⟩
 | panic ch=>exact ⟨_,a₁,w₁,hq,.of_steps (.one h0 stepR_block) harr⟩
 | outgrown=>exact ⟨_,a₁,w₁,hq,.of_steps (.one h0 stepR_block) harr⟩
def rangeEnd (f:FuncId) (P:Program) (l:Nat) (Q:Exit→Act→World→Prop) (a:Act):Ending→World→Prop
 | .returned _,w=>∃ jump w',(Instr.endLoop l).run P w = .ok jump w'∧(match jump with
   | none=>Q .normal a w'
   | some c=>wpAt f P c Q a w')
 | .panicked c,w=>Q (.panic c) a w
 | .outgrown,_=>LetsOut Q
theorem Bl3 {g:Operand} {ps:Array Tmp} {assign body:Code} {l:Nat} {mark:List Deferred} {w₁ w₂ w₃:World} {d:Deferred} {gf:FuncId} {args:Array Value}
  (he:(Instr.enterLoop f a.tmps ps assign body none).run P w = .ok (l,mark) w₁) (hres:(resolve a.eval (rangeCall g l) 0).run P w₁ = .ok d w₂) (hinv:(invoke d.target d.args).run P w₂ = .ok (.enter gf args) w₃)
  (hcall:CallsIn (Fr none) 8 P gf args w₃ (rangeEnd f P l Q { a with defers:=mark++a.defers })):wpAt f P (.rangeFunc g ps assign body) Q a w:=by
 intro b k cs hro hb;rw [← hb,← hro] at he;have h0:(lone (b.atR a (.code (.rangeFunc g ps assign body)::k)) cs w).fenced P (Fr none):=fenced_lone (.inl trivial) (fun _ _=>trivial) (room_wide _);have henter:=stepR_rangeFunc (P:=P) (b:=b) (a:=a) (k:=k) (cs:=cs) (w:=w) he hres hinv;obtain ⟨e,w₄,fr,hR,hsteps,_,hleave⟩:=hcall.2 (b.atR { a with defers:=mark++a.defers } (.inRangeFunc l::k)::cs) (room_wide _)
 cases e with
 | outgrown =>
   obtain ⟨a₀,w₀,hq⟩:=hR;exact ⟨.outgrown,a₀,w₀,hq,.inr (Outgrown.of_steps (.one henter) hsteps)⟩
 | returned v =>
   have hl:(lone fr (b.atR { a with defers:=mark++a.defers } (.inRangeFunc l::k)::cs) w₄).fenced P (Fr none):=fenced_leaving (n:=9) trivial (room_wide _) hleave;obtain ⟨jump,w₅,hend,hj⟩:=hR
   have sback:StepsIn (Machine.fenced P (Fr none)) P (lone (b.atR a (.code (.rangeFunc g ps assign body)::k)) cs w) (lone (b.atR { a with defers:=mark++a.defers } ((jump.map Item.code).toList++k)) cs w₅):=by
    refine .head h0 henter (StepsIn.trans hsteps (.head hl ?_ (.one (fenced_calm (n:=9) (fr:=b.atR { a with defers:=mark++a.defers } (.endRangeFunc l::k)) trivial (room_wide _) rfl) (stepR_endRangeFunc hend))))
    rw [← finish_atR_inRangeFunc l v];exact step_leave_returned hleave
   cases jump with
   | none=>exact ⟨.normal,_,w₅,hj,sback⟩
   | some c =>
     obtain ⟨e',a'',w₆,hq,harr⟩:=hj b k cs hro hb;exact ⟨e',a'',w₆,hq,.of_steps sback harr⟩
 | panicked chain =>
   have hl:(lone fr (b.atR { a with defers:=mark++a.defers } (.inRangeFunc l::k)::cs) w₄).fenced P (Fr none):=fenced_leaving (n:=9) trivial (room_wide _) hleave;refine ⟨.panic chain,_,w₄,hR,.inRangeFunc l::k,.head h0 henter (StepsIn.trans hsteps (.one hl ?_))⟩
   rw [← Frame.raise_atR];exact step_leave_panicked hleave
def roundEnd (P:Program) (l:Nat) (R:Ending→World→Prop):Exit→Act→World→Prop
 | .normal,_,w=>∃ v w',(Instr.endRound l none).run P w = .ok v w'∧R (.returned v) w'
 | .ret,_,w=>∃ v w',(Instr.endRound l (some .ret)).run P w = .ok v w'∧R (.returned v) w'
 | .exit id,_,w=>∃ v w',(Instr.endRound l (some (.exit id))).run P w = .ok v w'∧R (.returned v) w'
 | .panic c,a,w=>a.defers=[]∧R (.panicked c) w
 | _,_,_=>False
theorem De4 {l m:Nat} {tmps:Array Value} {assign body:Code} {R:Ending→World→Prop} {fn0:Func} (hfn:P.funcs[f]? = some fn0)
  (h:assign.wpIn (Fr (some l)) 9 P (Exit.then (fun a₁ w₁=>∃ w₂,(Instr.beginRound l).run P w₁ = .ok () w₂∧body.wpIn (Fr (some l)) 9 P (roundEnd P l R) a₁ w₂) (fun _ _ _=>False)) { tmps:=tmps,defers:=[] } w) :
  RoundIn (Fr none) m P l f tmps assign body w R:=by
 refine ⟨trivial,fun c cs _=>?_⟩
 let b:Frame:={ (default:Frame) with fn:=f,kind:=.normal,roundOf:=some l }
 have hb0:Frame.round l f tmps assign body .normal=b.atR { tmps:=tmps,defers:=[] } [.code assign,.beginRound,.code body]:=by
  simp [Frame.round,Frame.atR,b]
 obtain ⟨e,a₁,w₁,hq,harr⟩:=h b [.beginRound,.code body] (c::cs) rfl trivial (room_wide _);rw [← hb0] at harr
 cases e with
 | normal =>
   obtain ⟨w₂,hbr,hbody⟩:=hq
   have s1:StepsIn (Machine.fenced P (Fr (some l))) P (lone (b.atR a₁ [.beginRound,.code body]) (c::cs) w₁) (lone (b.atR a₁ [.code body]) (c::cs) w₂) :=
    .one (fenced_calm (n:=9) (fr:=b.atR a₁ [.beginRound,.code body]) trivial (room_wide _) rfl) (stepR_beginRound rfl hbr)
   obtain ⟨e₂,a₂,w₃,hq₂,harr₂⟩:=hbody b [] (c::cs) rfl trivial (room_wide _)
   cases e₂ with
   | normal =>
     obtain ⟨v,w₄,hend,hR⟩:=hq₂;exact ⟨.returned v,w₄,hR,(StepsIn.trans harr s1).trans (StepsIn.trans harr₂ (.one (fenced_calm (n:=9) (fr:=b.atR a₂ []) trivial (room_wide _) rfl) (stepR_round_end rfl rfl hend)))⟩
   | ret =>
     obtain ⟨v,w₄,hend,hR⟩:=hq₂;obtain ⟨k₁,hs⟩:=harr₂.2 rfl;exact ⟨.returned v,w₄,hR,(StepsIn.trans harr s1).trans (StepsIn.trans hs (.one (fenced_calm (n:=9) (fr:=b.atR a₂ (.code .ret::k₁)) trivial (room_wide _) rfl) (stepR_round_ret rfl rfl hend)))⟩
   | exit id =>
     obtain ⟨v,w₄,hend,hR⟩:=hq₂;obtain ⟨k₁,hk,hs⟩:=harr₂.2 rfl rfl;exact ⟨.returned v,w₄,hR,(StepsIn.trans harr s1).trans (StepsIn.trans hs (.one (fenced_calm (n:=9) (fr:=b.atR a₂ (.code (.exit id)::k₁)) trivial (room_wide _) rfl) (stepR_round_exit rfl rfl hk hend)))⟩
   | goto t=>exact hq₂.elim
   | panic chain =>
     obtain ⟨hd,hR⟩:=hq₂;obtain ⟨todo,hs⟩:=harr₂;have hl:({ b.atR a₂ todo with mode:=.panicking chain }:Frame).leaving P w₃ (.panicked chain):=⟨rfl,hd,fn0,hfn⟩;exact ⟨.panicked chain,w₃,hR,(StepsIn.trans harr s1).trans (StepsIn.trans hs (.one (fenced_leaving (n:=9) trivial (room_wide _) hl) (step_leave_panicked hl)))⟩
   | outgrown=>exact hq₂.elim
 | exit id=>exact hq.elim
 | goto t=>exact hq.elim
 | ret=>exact hq.elim
 | panic chain=>exact hq.elim
 | outgrown=>exact hq.elim
end
def SeqQ {α:Type} (P:Program) (gf:FuncId) (lb:Array Value) (encs:α→List Value) (eb:α→Blks) (itb:Blks) (mis:Int→Value) (S Sp:List α→Prop) (Sq:Int→List α→Prop) (N:Nat) (W0:World):Prop :=
 ∀ {X:Type} (l:Nat) (U:X→Blks) (I:List α→X→Prop) (Ix:X→Prop) (Ip:List PanicEntry→X→Prop) (rest:Blks) (w:World) (x0:X),
   (∀ pre v x tl w1,I pre x→Sp (pre++[v])→pre.length < N→Mem W0 [] (eb v++(U x++tl)) w1→YieldAt (Fr none) 8 P l (encs v).toArray w1 fun e w'=>∃ x',Mem W0 [] (U x'++tl) w'∧((e = .returned (.bool true)∧I (pre++[v]) x')∨(e = .returned (.bool false)∧Ix x')∨(∃ c,e = .panicked c∧Ip c x'))) →
   I [] x0→Mem W0 [] (U x0++(itb++rest)) w →
   CallsIn (Fr none) 8 P gf (#[.func (.yield l) #[] #[]]++lb) w fun e w'=>∃ x',Mem W0 [] (U x'++rest) w' ∧
    ((∃ v,e = .returned v∧((∃ xs,S xs∧I xs x')∨Ix x'))∨(∃ c,e = .panicked c∧Ip c x')∨(∃ k xs,e = .panicked [{ v:=mis k,recovered:=false }]∧Sq k xs∧I xs x'))
section
variable {f:FuncId} {ro:Option Nat} {P:Program} {ops:Array Oper} {Q:Exit→Act→World→Prop} {n:Nat} {r:Regs} {ds:List Deferred} {W:World} {chg news:Blks} {rest:List Oper} {d:Nat}
def RunCF (f:FuncId) (P:Program) (Q:Exit→Act→World→Prop) (n:Nat) (c:Code) (r:Regs) (ds:List Deferred) (W:World) (chg news:Blks):Prop:=∀ a w,St n r ds W chg news a w→wpAt f P c Q a w
theorem AS9 {c:Code} (h:RunC P Q n c r ds W chg news):RunCF f P Q n c r ds W chg news:=fun a w s=>Ds4 (wpIn_wide (n:=9) |>.2 (h a w s))
theorem RunCF.seq {x y:Code} (h:RunCF f P (Exit.then (wpAt f P y Q) Q) n x r ds W chg news):RunCF f P Q n (.seq x y) r ds W chg news:=fun a w s=>Da6 (h a w s)
theorem RunCF.block {id:Nat} {c:Code} (h:RunCF f P (Exit.inBlock id Q) n c r ds W chg news):RunCF f P Q n (.block id c) r ds W chg news:=fun a w s=>Cl9 (h a w s)
theorem RunEF.next {y:Code} {Q':Exit→Act→World→Prop} (h:RunCF f P Q n y r ds W chg news):RunE (Exit.then (wpAt f P y Q) Q') n .normal r ds W chg news:=fun a w s=>h a w s
theorem AS2 {fn:Func} {c:Code} {vs:List Value} {R:Ending→World→Prop} {w:World} (hm:Mem W chg news w) (hf:P.funcs[f]? = some fn) (hb:fn.body=some c) (hn:Nat.ble vs.length fn.ntmps=true)
  (h:RunCF f P (bodyPostM Fence.wide 9 P fn R) fn.ntmps c (args0 0 vs) [] W chg news):Calls P f vs.toArray w R:=by
 have s0:=Ay8 (Nat.le_of_ble_eq_true hn) (Mem.refl w) (vs:=vs);have h2:=h _ _ ⟨s0.size,s0.agree,s0.defers,hm⟩;refine (callsIn_wide (n:=9)).1 ⟨trivial,fun cs hr=>?_⟩
 let b:Frame:={ (default:Frame) with fn:=f,kind:=.normal,roundOf:=none }
 have henter:Frame.enter P f vs.toArray .normal=b.atR { tmps:=vs.toArray++Array.replicate (fn.ntmps - vs.toArray.size) undef,defers:=[] } [.code c]:=by
  simp [Frame.enter,Frame.atR,hf,hb,b]
 obtain ⟨e,a',w',hq,harr⟩:=h2 b [] cs rfl rfl;rw [← henter] at harr
 cases e with
 | normal =>
   obtain ⟨e',w'',fr',hR,hs,hfn,hl⟩:=leaves_stepsInM (F:=Fence.wide) (n:=9) a'.defers .returning w' { b.atR a' [] with mode:=.returning } cs rfl rfl rfl hf rfl trivial hr hq;exact ⟨e',w'',fr',hR,ComesIn.of_steps (StepsIn.trans harr (.one (fenced_calm (n:=9) (fr:=b.atR a' []) trivial hr rfl) (stepR_end rfl))) hs,hfn,hl⟩
 | ret =>
   obtain ⟨todo,hs₀⟩:=harr.1 rfl;obtain ⟨e',w'',fr',hR,hs,hfn,hl⟩:=leaves_stepsInM (F:=Fence.wide) (n:=9) a'.defers .returning w' { b.atR a' todo with mode:=.returning } cs rfl rfl rfl hf rfl trivial hr hq;exact ⟨e',w'',fr',hR,ComesIn.of_steps hs₀ hs,hfn,hl⟩
 | panic chain =>
   obtain ⟨todo,hs₀⟩:=harr;obtain ⟨e',w'',fr',hR,hs,hfn,hl⟩:=leaves_stepsInM (F:=Fence.wide) (n:=9) a'.defers (.panicking chain) w' { b.atR a' todo with mode:=.panicking chain } cs rfl rfl rfl hf rfl trivial hr hq;exact ⟨e',w'',fr',hR,ComesIn.of_steps hs₀ hs,hfn,hl⟩
 | exit id=>exact hq.elim
 | goto l=>exact hq.elim
 | outgrown=>exact ⟨.outgrown,w',b,hq,harr.resolve_left (by simp [b]),rfl,trivial⟩
theorem BE6 {m k l:Nat} {fn:FuncId} {tmps:Array Value} {assign body:Code} {w:World} {R:Ending→World→Prop} {ro':Option Nat} (h:RoundIn (Fr ro) m P l fn tmps assign body w R):RoundIn (Fr ro') k P l fn tmps assign body w R:=by
 refine ⟨trivial,fun c cs _=>?_⟩
 obtain ⟨e,w',h1,h2⟩:=h.2 c cs (by cases ro <;> exact room_wide _);have e1:Machine.fenced P (Fr ro)=Machine.fenced P (Fr ro'):=by cases ro <;> cases ro' <;> rfl
 rw [e1] at h2;exact ⟨e,w',h1,h2⟩
theorem AI6 {β γ:Type} {o:Oper} {l:Nat} {args:Array Value} {v:β→Value} {nw:β→Blks} {I:β→Prop} {cc:γ→List PanicEntry} {np:γ→Blks} {J:γ→Prop} (hi:IsYield P r o l args) (hg:guardB ops r o.guard=some true) (hd:o.dst=some d) (hn:Nat.ble (d + 1) n=true)
  (hy:∀ w,Mem W chg news w→YieldAt (Fr none) 8 P l args w fun e w'=>(∃ b,I b∧e = .returned (v b)∧Mem W chg (nw b) w')∨(∃ c,J c∧e = .panicked (cc c)∧Mem W chg (np c) w'))
  (hp:∀ c,J c→RunE Q n (.panic (cc c)) r ds W chg (np c)) (h:∀ b,I b→RunLR ro P ops Q n rest ((d,v b)::r) ds W chg (nw b)) (hnd:notDefer o=true:=by rfl):RunLR ro P ops Q n (o::rest) r ds W chg news:=fun a w s =>
 Aj5 (Ad5 s.agree hg) hnd fun K hK=>by
  obtain ⟨fn,tmps,assign,body,hy1,hy2⟩:=hy w s.mem;rw [hi.runs a w s.agree,hy1,Oper.uponIn_round];refine ⟨fun h=>(by cases ro <;> cases h),(BE6 hy2).mono ?_⟩
  rintro e w' (⟨b,hb,rfl,hm⟩ | ⟨c,hc,rfl,hm⟩)
  · show K _ _
    rw [hd];have s2:=s.put (Nat.le_of_ble_eq_true hn) (v b);exact hK _ _ (h b hb _ _ ⟨s2.size,s2.agree,s2.defers,hm⟩)
  · exact hp c hc a w' ⟨s.size,s.agree,s.defers,hm⟩
def recO (fn:FuncId) (tmps:Array Value) (ps:Array Tmp) (assign body:Code) (D:Nat) (st:LoopState) (pe:Option Code):Obj:=.loop { state:=st,pending:=pe,fn,tmps,params:=ps,assign,body,defers:=D }
def dfrO:Obj:=.deferred (some [])
theorem Mem.put {w:World} {l:Nat} {o:Obj} (o':Obj) (h:Mem W chg ((l,o)::news) w):Mem W chg ((l,o')::news) (w.putObj l o') :=
 h.upd_new .here rfl rfl rfl (by simp [World.putObj]) (fun k _ hk=>World.putObj_heap_other hk) (World.putObj_heap_same (lt_of_block (h.newd _ _ (List.mem_cons_self ..)).2))
def BodyQ2 {X:Type} (W:World) (l:Nat) (ro:Obj) (Dd:Nat×Obj) (U:X→Blks) (tl:Blks) (Iv:X→Prop) (Stp:Code→X→Prop) (Pan:List PanicEntry→X→Prop):Exit→Act→World→Prop
 | .normal,_,w=>∃ x,Iv x∧Mem W [] ((l,ro)::Dd::(U x++tl)) w
 | .ret,_,w=>∃ x,Stp .ret x∧Mem W [] ((l,ro)::Dd::(U x++tl)) w
 | .exit id,_,w=>∃ x,Stp (.exit id) x∧Mem W [] ((l,ro)::Dd::(U x++tl)) w
 | .panic c,a,w=>a.defers=[]∧∃ x,Pan c x∧Mem W [] ((l,ro)::Dd::(U x++tl)) w
 | _,_,_=>False
section
variable {X:Type} {l:Nat} {ro:Obj} {Dd:Nat×Obj} {U:X→Blks} {tl:Blks} {Iv:X→Prop} {Stp:Code→X→Prop} {Pan:List PanicEntry→X→Prop}
theorem AC7 (x:X) (hx:Iv x) (hp:Pick ((l,ro)::Dd::(U x++tl)) news):RunE (BodyQ2 W l ro Dd U tl Iv Stp Pan) n .normal r ds W [] news:=fun _ _ s=>⟨x,hx,s.mem.pick hp⟩
end
open Classical in
theorem _root_.Go.pk7 {l m:Eng.Blks} (h:∀ x,l.count x≤m.count x:=by intro x;simp only [List.cons_append,List.count_append,List.count_cons];omega):Eng.Pick l m:=Eng.Pick.cnt h
theorem RunCF.range {α X:Type} {g:Operand} {gf p q id N:Nat} {lb:Array Value} {enc:α→Value} {eb:α→Blks} {itb:Blks} {mis:Int→Value} {S Sp:List α→Prop} {Sq:Int→List α→Prop} {oA:Oper} {body:Code} {fn0:Func} (hf0:P.funcs[f]? = some fn0)
  (U:X→Blks) (Iv:List α→X→Prop) (Stp:Code→X→Prop) (Pan:List PanicEntry→X→Prop) (x0:X) (i0:Iv [] x0) (rst:Blks) (hn:Pick (U x0++(itb++rst)) news)
  (hg:rev r g=some (.func (.func gf) #[] lb)) (he:Enters P gf) (hseq:SeqQ P gf lb (fun x=>[enc x]) eb itb mis S Sp Sq N W)
  (hp:Nat.ble (p + 1) n=true) (hq:Nat.ble (q + 1) n=true) (hA:∀ v,pureV ((p,v)::r) oA.op=some v) (hAg:oA.guard=none) (hAd:oA.dst=some q) (hAn:notDefer oA=true)
  (hbody:∀ l D ob pre v x tl,Iv pre x→Sp (pre++[v])→pre.length < N→RunCR (some l) P (BodyQ2 W l ob (D,dfrO) U tl (Iv (pre++[v])) Stp Pan) n body ((q,enc v)::(p,enc v)::r) [] W [] ((l,ob)::(D,dfrO)::(eb v++(U x++tl))))
  (hdone:∀ D xs x,S xs→Iv xs x→RunE Q n .normal r ({ target:=.collected D,args:=#[] }::ds) W [] ((D,dfrO)::(U x++rst)))
  (hstop:∀ D c x,Stp c x→RunCF f P Q n c r ({ target:=.collected D,args:=#[] }::ds) W [] ((D,dfrO)::(U x++rst)))
  (hpan:∀ D c x,Pan c x→RunE Q n (.panic c) r ({ target:=.collected D,args:=#[] }::ds) W [] ((D,dfrO)::(U x++rst)))
  (hown:∀ D k xs x,Sq k xs→Iv xs x→RunE Q n (.panic [{ v:=mis k,recovered:=false }]) r ({ target:=.collected D,args:=#[] }::ds) W [] ((D,dfrO)::(U x++rst))) :
  RunCF f P Q n (.rangeFunc g #[p] (.region id #[oA] false) body) r ds W [] news:=fun a w s=>by
 have hm:=s.mem.pick hn;obtain ⟨rc,hrc⟩:∃ rc:LoopState→Option Code→Obj,rc=recO f a.tmps #[p] (.region id #[oA] false) body w.heap.size:=⟨_,rfl⟩;obtain ⟨W1,hW1⟩:∃ W1,(w.alloc dfrO).alloc (rc .ready none)=W1:=⟨_,rfl⟩
 have hm1:Mem W [] ((w.heap.size + 1,rc .ready none)::(w.heap.size,dfrO)::(U x0++(itb++rst))) W1:=by
  have h1:=(hm.alloc dfrO).alloc (rc .ready none);rw [hW1] at h1;simpa using h1
 refine Bl3 (l:=w.heap.size + 1) (mark:=[{ target:=.collected w.heap.size,args:=#[] }]) (w₁:=W1) (w₂:=W1) (w₃:=W1) (d:={ target:=.fn (.func gf) lb,args:=#[.func (.yield (w.heap.size + 1)) #[] #[]] }) (gf:=gf) (args:=#[.func (.yield (w.heap.size + 1)) #[] #[]]++lb) ?_ ?_ ?_ ?_
 · rw [← hW1,hrc];exact run_enterLoop_outer _ _ _ _ _
 · simp only [resolve,s.agree.eval hg]
   simp [go_sem]
 · simp [invoke,go_sem,he _ _]
 have hU:∀ (D:Nat) (ob:Obj) (x:X) (tl:Blks) (w':World),Mem W [] ((w.heap.size + 1,ob)::(D,dfrO)::(U x++tl)) w'→Mem W [] ((D,dfrO)::(U x++tl)) w':=fun D ob x tl w' h=>h.fewer (List.sublist_cons_self _ _)
 refine (hseq (X:=X×LoopState×Option Code) (w.heap.size + 1) (fun y=>(w.heap.size + 1,rc y.2.1 y.2.2)::(w.heap.size,dfrO)::U y.1) (fun pre y=>Iv pre y.1∧y.2=(.ready,none)) (fun y=>∃ c,Stp c y.1∧y.2=(.done,some c)) (fun c y=>Pan c y.1∧y.2=(.busy,none)) rst W1 (x0,.ready,none) ?_ ⟨i0,rfl⟩ (by simpa using hm1)).mono ?_
 · rintro pre v ⟨x,st⟩ tl w1 ⟨hI,rfl⟩ hsp hlen hmem0
   have hmem:Mem W [] ((w.heap.size + 1,rc .ready none)::(w.heap.size,dfrO)::(eb v++(U x++tl))) w1:=hmem0.pick pk7;have hl:w1.heap[w.heap.size + 1]? = some (rc .ready none):=(hmem.newd _ _ (List.mem_cons_self ..)).2;rw [hrc] at hl;have hy:=run_yield (P:=P) (args:=#[enc v]) hl rfl;refine ⟨f,_,_,_,hy,De4 hf0 ?_⟩
   have hsz:p < a.tmps.size:=by rw [s.size];exact Nat.le_of_ble_eq_true hp
   have hsz2:q < a.tmps.size:=by rw [s.size];exact Nat.le_of_ble_eq_true hq
   have hag:Agree (({ tmps:=a.tmps,defers:=[] }:Act).put (some p) (enc v)) ((p,enc v)::r):=Agree.put (a:={ tmps:=a.tmps,defers:=[] }) (fun t u ht=>s.agree t u ht) hsz;have hag2:=hag.put (d:=q) (v:=enc v) (by simp [Act.put];exact hsz2);refine wpIn_region_lit (l:=[oA]) (wpListIn_plain hAg fun K2 hK2=>?_)
   refine ⟨fun _ _=>trivial,?_⟩
   rw [Oper.semAt_eq _ _ _ (Ao6 hAn)];have hrun:=AN4 (P:=P) (o:=oA) hag (hA (enc v)) w1;have e2:(({ tmps:=a.tmps,defers:=[] }:Act).put (some p) (enc v))={ tmps:=(#[p].zip #[enc v]).foldl (fun t (pv:Nat×Value)=>t.setIfInBounds pv.1 pv.2) a.tmps,defers:=[] }:=by simp [Act.put]
   rw [e2] at hrun;rw [hrun,Oper.uponIn_value,hAd];refine hK2 _ _ ?_;refine ⟨_,run_beginRound hl rfl,?_⟩
   rw [← hrc] at hl;have hm2:=hmem.put (recO f a.tmps #[p] (.region id #[oA] false) body w.heap.size .busy none);rw [← hrc] at hm2;have eb:(Obj.loop { state:=.busy,pending:=none,fn:=f,tmps:=a.tmps,params:=#[p],assign:=.region id #[oA] false,body:=body,defers:=w.heap.size })=rc .busy none:=by rw [hrc];rfl
   have hb:=hbody (w.heap.size + 1) w.heap.size (rc .busy none) pre v x tl hI hsp hlen _ _ ⟨by simp [Act.put,s.size],hag2,rfl,hm2⟩;rw [e2] at hb;rw [eb];refine wpIn_mono (Ay3 hb) ?_
   have fin:∀ (jump:Option Code) (x':X) (w3:World),Mem W [] ((w.heap.size + 1,rc .busy none)::(w.heap.size,dfrO)::(U x'++tl)) w3 →
     (Instr.endRound (w.heap.size + 1) jump).run P w3 = .ok (.bool jump.isNone) (w3.putObj (w.heap.size + 1) (rc (if jump.isNone then .ready else .done) jump)) ∧
     Mem W [] ((w.heap.size + 1,rc (if jump.isNone then .ready else .done) jump)::(w.heap.size,dfrO)::(U x'++tl)) (w3.putObj (w.heap.size + 1) (rc (if jump.isNone then .ready else .done) jump)):=fun jump x' w3 h3=>by
    have hl3:w3.heap[w.heap.size + 1]? = some (rc .busy none):=(h3.newd _ _ (List.mem_cons_self ..)).2;rw [hrc] at hl3;have h4:=run_endRound (P:=P) jump hl3;refine ⟨by rw [h4,hrc];rfl,h3.put _⟩
   rintro e a3 w3 hq3
   cases e with
   | normal =>
     obtain ⟨x',hx',h3⟩:=hq3;obtain ⟨h4,h5⟩:=fin none x' w3 h3;exact ⟨_,_,h4,(x',.ready,none),h5,.inl ⟨rfl,hx',rfl⟩⟩
   | ret =>
     obtain ⟨x',hx',h3⟩:=hq3;obtain ⟨h4,h5⟩:=fin (some .ret) x' w3 h3;exact ⟨_,_,h4,(x',.done,some .ret),h5,.inr (.inl ⟨rfl,.ret,hx',rfl⟩)⟩
   | exit id =>
     obtain ⟨x',hx',h3⟩:=hq3;obtain ⟨h4,h5⟩:=fin (some (.exit id)) x' w3 h3;exact ⟨_,_,h4,(x',.done,some (.exit id)),h5,.inr (.inl ⟨rfl,.exit id,hx',rfl⟩)⟩
   | goto t=>exact hq3.elim
   | panic c =>
     obtain ⟨hd,x',hx',h3⟩:=hq3;exact ⟨hd,(x',.busy,none),h3,.inr (.inr ⟨c,rfl,hx',rfl⟩)⟩
   | outgrown=>exact hq3.elim
 · rintro e w2 ⟨⟨x,st⟩,hmem,hcase⟩
   have hdf:∀ {z:Exit} {w':World},Mem W [] ((w.heap.size,dfrO)::(U x++rst)) w'→St n r ({ target:=.collected w.heap.size,args:=#[] }::ds) W [] ((w.heap.size,dfrO)::(U x++rst)) { a with defers:=[{ target:=.collected w.heap.size,args:=#[] }]++a.defers } w':=fun h=>⟨s.size,s.agree,by rw [← s.defers];rfl,h⟩
   have hl0:w2.heap[w.heap.size + 1]? = some (rc st.1 st.2):=(hmem.newd _ _ (List.mem_cons_self ..)).2;rw [hrc] at hl0
   rcases hcase with ⟨v,rfl,⟨xs,hS,hI,rfl⟩ | ⟨c,hc,rfl⟩⟩ | ⟨c,rfl,hc,rfl⟩ | ⟨k,xs,rfl,hS,hI,rfl⟩
   · exact ⟨none,_,run_endLoop (P:=P) hl0 (by simp),hdone _ xs x hS hI _ _ (hdf (z:=.normal) (hmem.putNew _))⟩
   · exact ⟨some c,_,run_endLoop (P:=P) hl0 (by simp),hstop _ c x hc _ _ (hdf (z:=.normal) (hmem.putNew _))⟩
   · exact hpan _ c x hc _ _ (hdf (z:=.normal) (hU _ _ _ _ _ hmem))
   · exact hown _ k xs x hS hI _ _ (hdf (z:=.normal) (hU _ _ _ _ _ hmem))
end
section
variable {P:Program} {n:Nat} {r:Regs} {W:World} {chg news:Blks} {ty:TypeId} {pos:String} {after:Array Edge} {dst:Option Tmp} {gd:Option (Nat×Bool)}
theorem AL7 {w:World} {T e:TypeId} {k c:Nat} (hT:P.underlying T=some (.slice e)):(Op.equal T (.slice none k c) (.slice none 0 0)).run P w = .ok true w:=by
 have h:∀ d,(Op.equalIn (d + 1) T (.slice none k c) (.slice none 0 0)).run P w = .ok true w:=fun d=>by simp [Op.equalIn,run_underlying hT]
 exact h 9999
theorem AF2 {x:Operand} {T yt e:TypeId} {k c:Nat} (hx:rev r x=some (.slice none k c)) (hT:P.underlying T=some (.slice e)) :
  Val P r W chg news { dst,op:=.binOp .eql T x (.const (.slice none 0 0)) yt,type:=ty,pos,after,guard:=gd } (.bool true) :=
 ⟨fun a w ha _=>by
  have h:=AL7 (P:=P) (w:=w) (k:=k) (c:=c) hT;simp [execOp,ha.eval hx,BigFrame.eval_const,eqGuard,binOp,h]⟩
theorem BB6 {x:Operand} {T t t':TypeId} {v z:Value} (hx:rev r x=some (.iface t' v)) (hi:(P.underlying t).any (fun t=>match t with | .interface _=>false | _=>true)=true) (hne:Nat.beq t' t=false) (hz:zeroV P t=some z) :
  Val P r W chg news { dst,op:=.typeAssert x T t true,type:=ty,pos,after,guard:=gd } (.tuple #[z,.bool false]) :=
 ⟨fun a w ha _=>by
  have hne':¬ t'=t:=fun e=>by subst e;simp at hne
  have hzz:(zeroValue t).run P w = .ok z w:=by
   unfold zeroV at hz
   cases hi:P.info? t with
   | none=>simp [hi] at hz
   | some i=>simp [hi] at hz;simp [zeroValue,typeInfo,hi,hz]
  cases hu:P.underlying t with
  | none=>simp [hu] at hi
  | some d =>
    simp [hu] at hi
    cases d <;> simp at hi <;> simp [execOp,ha.eval hx,Instr.typeAssert,run_underlying hu,hne',hzz]⟩
end
theorem Cd1 {P:Program} {ops:Array Oper} {Q:Exit→Act→World→Prop} {n d:Nat} {r:Regs} {ds:List Deferred} {W:World} {chg news:Blks} {i:Nat} {K:Act→World→Prop} {β:Type} {o:Oper} {f:FuncId} {args:Array Value} {v:β→Value} {U:β→Blks} (A T:Blks) (hne:news=A++T) (ho:ops[i]? = some o) (hi:IsCall P r o f args) (hg:guardB ops r o.guard=some true) (hd:o.dst=some d) (hn:Nat.ble (d + 1) n=true)
  (hc:∀ w,Mem W chg news w→Calls P f args w (News v (fun b=>U b++[]) w)) (h:∀ b,RunK n K ((d,v b)::r) ds W chg (A++(U b++T))):RunI P ops Q n i K r ds W chg news :=
 RunI.call ho hi hg hc (fun a w e w' s hR=>by
  obtain ⟨b,rfl,hm⟩:=hR;have s2:=s.put (Nat.le_of_ble_eq_true hn) (v b);simp only [hd];refine h b _ _ ⟨s2.size,s2.agree,s2.defers,(s.mem.trans hm).pick (Pick.cnt fun x=>?_)⟩
  rw [hne];simp only [List.append_nil,List.count_append];omega)
theorem Xp {P:Program} {ops:Array Oper} {Q:Exit→Act→World→Prop} {n d:Nat} {r:Regs} {ds:List Deferred} {W:World} {chg news:Blks} {i:Nat} {K:Act→World→Prop} {β:Type} {o:Oper} {f:FuncId} {args:Array Value} {v:β→Value} {U:β→Blks} (A T:Blks) (hne:news=A++T) (ho:ops[i]? = some o) (hi:IsCall P r o f args) (hc:∀ w,Mem W chg news w→Calls P f args w (News v (fun b=>U b++[]) w)) (h:∀ b,RunK n K ((d,v b)::r) ds W chg (A++(U b++T))) (hg:guardB ops r o.guard=some true:=by rfl) (hd:o.dst=some d:=by rfl) (hn:Nat.ble (d + 1) n=true:=by rfl) :
  RunI P ops Q n i K r ds W chg news:=Cd1 (A:=A) (T:=T) (hne:=hne) (ho:=ho) (hi:=hi) (hg:=hg) (hd:=hd) (hn:=hn) (hc:=hc) (h:=h)
theorem Ag8 {P:Program} {f:FuncId} {args:Array Value} {w:World} {R R':Ending→World→Prop} (h:Calls P f args w R) (hr:∀ e w',R e w'→R' e w'):Calls P f args w R':=h.mono hr
section
variable {P:Program} {ops:Array Oper} {Q:Exit→Act→World→Prop} {n:Nat} {r:Regs} {ds:List Deferred} {W:World} {chg news:Blks} {rest:List Oper}
variable {d:Nat} {ty:TypeId} {pos:String} {after:Array Edge} {dst:Option Tmp} {gd:Option (Nat×Bool)}
theorem Bl7 {T t:TypeId} {w:World} (hT:P.underlying T=some (.pointer t)) (p:Option Addr):(Op.equal T (.pointer p) (.pointer none)).run P w = .ok p.isNone w:=by
 have h:∀ d:Nat,(Op.equalIn (d + 1) T (.pointer p) (.pointer none)).run P w = .ok p.isNone w:=fun d=>by
  cases p <;> simp [Op.equalIn,run_underlying hT]
 simp [Op.equal,Op.maxDepth,h 9999]
theorem Ak1 {x:Operand} {T yt t:TypeId} {p:Option Addr} (hx:rev r x=some (.pointer p)) (hT:P.underlying T=some (.pointer t)) :
  Val P r W chg news { dst,op:=.binOp .eql T x (.const (.pointer none)) yt,type:=ty,pos,after,guard:=gd } (.bool p.isNone) :=
 ⟨fun a w ha _=>by
  have h:=Bl7 (P:=P) (w:=w) hT p;simp [execOp,ha.eval hx,BigFrame.eval_const,eqGuard,binOp,h]⟩
theorem Al9 {x i y:Operand} {T E:TypeId} {b:Nat} {l:List (List UInt8×Value)} {a:List UInt8} {v:Value} {news':Blks} (hx:rev r x=some (.map (some b))) (hi:rev r i=some (.string (bs a))) (hy:rev r y=some v) (hu:Upd news b (mapS l) (mapS (l++[(a,v)])) news') (hT:mapSB P T=some E) (hk:sIdx l a=none) :
  Sto P r W chg news { dst,op:=.insert T x i y,type:=ty,pos,after,guard:=gd } chg news' :=
 ⟨fun ac w ha hm=>by
  have hb:=(hm.newd _ _ hu.mem).2;obtain ⟨s1,s2⟩:=Aj7 (o':=mapS (l++[(a,v)])) hb;refine ⟨{ w with heap:=w.heap.setIfInBounds b (mapS (l++[(a,v)])) },by simp [execOp,ha.eval hx,ha.eval hi,ha.eval hy,AT4 hb hT hk],hm.upd_new hu rfl rfl rfl (by simp) (fun k _ hk=>s2 k hk) s1⟩⟩
theorem Av8 (z:Own) (k:Nat):cellsL (ownV z k)=[ownV z k]:=by cases z <;> rfl
theorem Af3 (z:Own) (k:Nat):isOne (ownV z k)=true:=by cases z <;> rfl
theorem Aw7 {v:Value} (hv:isOne v=true):∀ {cs:List Value} {o:Nat},o < cs.length→paste cs o [v]=some (cs.set o v)
 | [],_,h=>by simp at h
 | c::cs,0,_=>by simp only [paste,pasteN,hv,List.set_cons_zero]
 | c::cs,o + 1,h=>by simp [paste,Aw7 hv (cs:=cs) (o:=o) (by simpa using h)]
theorem AA5 {x y:Operand} {T T0:TypeId} {b o k:Nat} {g:Bool} {cs cs':List Value} {z:Own} {news':Blks} (hx:rev r x=some (.pointer (some ⟨b,o,none⟩))) (hy:rev r y=some (ownV z k))
  (hu:Upd news b (.cells cs.toArray T0 (0,0)) (.cells cs'.toArray T0 (0,0)) news') (hT:tyB P T=some (g,1)) (ho:Nat.blt o cs.length=true) (hp:cs.set o (ownV z k)=cs') :
  Sto P r W chg news { dst,op:=.store T x y,type:=ty,pos,after,guard:=gd } chg news' :=
 Sto.store hx hy hu hT (by rw [Av8];rfl) (by rw [Av8,← hp];exact Aw7 (Af3 z k) (by simpa using ho))
end
section
variable {f:FuncId} {ro:Option Nat} {P:Program} {ops:Array Oper} {Q:Exit→Act→World→Prop} {n:Nat} {r:Regs} {ds:List Deferred} {W:World} {chg news:Blks} {d fuel:Nat} {listed:Array Bool}
theorem AA0 {fn:Func} {c:Code} {vs:List Value} {R:Ending→World→Prop} {w:World} (hm:Mem W chg news w) (hf:P.funcs[f]? = some fn) (hb:fn.body=some c) (hn:Nat.ble vs.length fn.ntmps=true)
  (h:RunCR none P (bodyPost P fn R) fn.ntmps c (args0 0 vs) [] W chg news) (m:Nat):CallsIn (Fr none) m P f vs.toArray w R:=by
 have s0:=Ay8 (Nat.le_of_ble_eq_true hn) (Mem.refl w) (vs:=vs);exact callsIn_of_wp hf hb trivial (Ay3 (h _ _ ⟨s0.size,s0.agree,s0.defers,hm⟩)) rfl
theorem Ba2 {α X:Type} {l:Nat} {encs:α→List Value} {eb:α→Blks} {U:X→Blks} {tl:Blks} {I:List α→X→Prop} {Ix:X→Prop} {Ip:List PanicEntry→X→Prop} {W0 w:World} {pre:List α} {v:α} {N':X→Blks}
  (hp:∀ x,Pick (N' x) (U x++tl)) (h:YieldAt (Fr none) 8 P l (encs v).toArray w fun e w'=>∃ x',Mem W0 [] (U x'++tl) w'∧((e = .returned (.bool true)∧I (pre++[v]) x')∨(e = .returned (.bool false)∧Ix x')∨(∃ c,e = .panicked c∧Ip c x'))) :
  YieldAt (Fr none) 8 P l (encs v).toArray w fun e w'=>(∃ b:Bool×X,(b.1=true∧I (pre++[v]) b.2∨b.1=false∧Ix b.2)∧e = .returned (.bool b.1)∧Mem W0 [] (N' b.2) w')∨(∃ c:List PanicEntry×X,Ip c.1 c.2∧e = .panicked c.1∧Mem W0 [] (N' c.2) w'):=by
 obtain ⟨fn,tmps,as0,bd,h1,h2⟩:=h;refine ⟨fn,tmps,as0,bd,h1,h2.mono ?_⟩
 rintro e w' ⟨x',hm,⟨rfl,hi⟩ | ⟨rfl,hi⟩ | ⟨c,rfl,hi⟩⟩
 · exact .inl ⟨(true,x'),.inl ⟨rfl,hi⟩,rfl,hm.pick (hp _)⟩
 · exact .inl ⟨(false,x'),.inr ⟨rfl,hi⟩,rfl,hm.pick (hp _)⟩
 · exact .inr ⟨(c,x'),hi,rfl,hm.pick (hp _)⟩
def RunAF (ro:Option Nat) (P:Program) (ops:Array Oper) (Q:Exit→Act→World→Prop) (n fuel:Nat) (listed:Array Bool) (r:Regs) (ds:List Deferred) (W:World) (chg news:Blks):Prop :=
 ∀ a w,St n r ds W chg news a w→wpAnyIn (Fr ro) 9 P .any ops Q fuel listed a w
def RunIF (ro:Option Nat) (P:Program) (ops:Array Oper) (Q:Exit→Act→World→Prop) (n i:Nat) (K:Act→World→Prop) (r:Regs) (ds:List Deferred) (W:World) (chg news:Blks):Prop :=
 ∀ a w,St n r ds W chg news a w→wpOpIn (Fr ro) 9 P ops Q i K a w
theorem RunAF.all {rs:List Nat} (hr:Region.ready .any ops listed=rs) (hne:rs ≠ []) (h:∀ i∈rs,RunIF ro P ops Q n i (wpAnyIn (Fr ro) 9 P .any ops Q fuel (listed.setIfInBounds i true)) r ds W chg news):RunAF ro P ops Q n (fuel + 1) listed r ds W chg news:=fun a w s =>
 ⟨fun h0=>absurd (hr ▸ h0) hne,fun i hi=>h i (hr ▸ hi) a w s⟩
theorem RunAF.one {i:Nat} (hr:Region.ready .any ops listed=[i]) (h:RunIF ro P ops Q n i (wpAnyIn (Fr ro) 9 P .any ops Q fuel (listed.setIfInBounds i true)) r ds W chg news):RunAF ro P ops Q n (fuel + 1) listed r ds W chg news :=
 RunAF.all hr (by simp) (fun j hj=>(List.mem_singleton.1 hj) ▸ h)
theorem RunAF.done (hr:Region.ready .any ops listed=[]) (h:RunE Q n .normal r ds W chg news):RunAF ro P ops Q n fuel listed r ds W chg news:=fun a w s=>by
 cases fuel with
 | zero=>exact ⟨hr,h a w s⟩
 | succ m=>exact ⟨fun _=>h a w s,fun i hi=>by rw [hr] at hi;cases hi⟩
theorem RunIF.of {i:Nat} {K:Act→World→Prop} (hn:noDefers ops=true) (h:RunI P ops Q n i K r ds W chg news) (hlo:∀ a w,Q .outgrown a w→False:=by exact fun _ _ h=>h):RunIF ro P ops Q n i K r ds W chg news:=fun a w s =>
 DM7 hn (Bw3 hlo) (fun _ _ h=>h) (h a w s)
theorem BQ2 (h:RunAF ro P ops Q n fuel listed r ds W chg news):RunK n (wpAnyIn (Fr ro) 9 P .any ops Q fuel listed) r ds W chg news:=h
theorem RunIF.yieldQ {β γ:Type} {i:Nat} {K:Act→World→Prop} {o:Oper} {l:Nat} {args:Array Value} {v:β→Value} {nw:β→Blks} {I:β→Prop} {cc:γ→List PanicEntry} {np:γ→Blks} {J:γ→Prop} (ho:ops[i]? = some o) (hi:IsYield P r o l args) (hg:guardB ops r o.guard=some true) (hd:o.dst=some d) (hn:Nat.ble (d + 1) n=true)
  (hy:∀ w,Mem W chg news w→YieldAt (Fr none) 8 P l args w fun e w'=>(∃ b,I b∧e = .returned (v b)∧Mem W chg (nw b) w')∨(∃ c,J c∧e = .panicked (cc c)∧Mem W chg (np c) w'))
  (hp:∀ c,J c→RunE Q n (.panic (cc c)) r ds W chg (np c)) (h:∀ b,I b→RunK n K ((d,v b)::r) ds W chg (nw b)) (hnd:notDefer o=true:=by rfl):RunIF ro P ops Q n i K r ds W chg news:=fun a w s=>by
 unfold wpOpIn;simp only [ho];rw [if_pos (Ad5 s.agree hg)];refine ⟨fun _ _=>trivial,?_⟩
 rw [Oper.semAt_eq _ _ _ (Ao6 hnd)];obtain ⟨fn,tmps,assign,body,hy1,hy2⟩:=hy w s.mem;rw [hi.runs a w s.agree,hy1,Oper.uponIn_round];refine ⟨fun h=>(by cases ro <;> cases h),(BE6 hy2).mono ?_⟩
 rintro e w' (⟨b,hb,rfl,hm⟩ | ⟨c,hc,rfl,hm⟩)
 · show K _ _
   rw [hd];have s2:=s.put (Nat.le_of_ble_eq_true hn) (v b);exact h b hb _ _ ⟨s2.size,s2.agree,s2.defers,hm⟩
 · exact hp c hc a w' ⟨s.size,s.agree,s.defers,hm⟩
theorem Ar5 {fn:Func} {R:Ending→World→Prop} {tl:List Deferred} {t:Array Value} {news2:Blks} {u:FrameMode} (hu:u ≠ .run) (hend:∀ w,Mem W chg news2 w→LeavesInM Fence.wide 9 P fn t R tl u w):∀ (Ds:List Nat) (w:World),Mem W chg (Ds.map markB++news2) w→LeavesInM Fence.wide 9 P fn t R (Ds.map markD++tl) u w
 | [],w,hm=>hend w hm
 | D::Ds,w,hm=>⟨hu,.inl ⟨D,_,rfl,run_takeDeferred (hm.newd D _ (List.mem_cons_self ..)).2,Ar5 hu hend Ds _ (hm.putNew _)⟩⟩
theorem Cx8 {fn:Func} {R:Ending→World→Prop} {c:List PanicEntry} {news2:Blks} (Ds:List Nat) (hp:Pick (Ds.map markB++news2) news) (hR:∀ w,Mem W chg news2 w→R (.panicked c) w) :
  RunE (bodyPostM Fence.wide 9 P fn R) n (.panic c) r (Ds.map markD++[]) W chg news:=fun a w s=>by
 show LeavesInM _ _ _ _ _ _ a.defers _ w
 rw [s.defers];exact Ar5 (tl:=[]) (u:=.panicking c) (by simp) (fun w hm=>by simpa [LeavesInM,LeavesIn] using hR w hm) Ds w (s.mem.pick hp)
end
section
variable {P:Program} {ops:Array Oper} {Q:Exit→Act→World→Prop} {n:Nat} {r:Regs} {ds:List Deferred} {W:World} {chg news:Blks} {rest:List Oper}
variable {d:Nat} {ty:TypeId} {pos:String} {after:Array Edge} {dst:Option Tmp} {gd:Option (Nat×Bool)}
theorem RunL.copy {x y:Operand} {T e T0:TypeId} {g l cap m c:Nat} {a:Addr} {cur cs:List Value} {news':Blks} (hx:rev r x=some (.slice (some ⟨g,0,none⟩) l cap)) (hy:rev r y=some (.slice (some a) m c)) (hT:slB P T=some (e,1)) (hlm:l≤m)
  (hu:Upd news g (.cells cur.toArray T0 (0,0)) (.cells cs.toArray T0 (0,0)) news') (hl:cs.length=l) (hcur:cur.length=l) (hsrc:∀ w,Mem W chg news w→∀ j v,cs[j]? = some v→w.cell? (a.add j)=some v) (h1:∀ v∈cs,v.oneCell'=true) (hd:Nat.ble (d + 1) n=true)
  (h:RunL P ops Q n rest ((d,.int .i64 (l:Int))::r) ds W chg news') :
  RunL P ops Q n ({ dst:=some d,op:=.call { callee:=.builtin .copy,args:=#[x,y],argTypes:=#[T,T] },type:=ty,pos,after,guard:=none }::rest) r ds W chg news:=fun ac w st =>
 wpList_plain rfl fun K hK=>by
  have hb:=(st.mem.newd _ _ hu.mem).2
  obtain ⟨hu2,j,hj,hj1⟩:P.underlying T=some (.slice e)∧∃ j,P.info? e=some j∧j.size=1:=by
   unfold slB at hT
   split at hT
   · rename_i e2 hu
     cases hj:P.info? e2 with
     | none=>simp [hj] at hT
     | some j =>
       simp [hj] at hT
       obtain ⟨rfl,hj1⟩:=hT;exact ⟨hu,j,hj,hj1⟩
   · cases hT
  have hrun:=run_copy_row (P:=P) w T T ty e g 0 l cap a m c cur.toArray T0 cs hu2 (by rw [hj];simp [hj1]) hb (by rw [hl];exact (Nat.min_eq_right hlm).symm) (hsrc w st.mem) (by simp [hl,hcur]) h1
  have e1:(cur.toArray.toList.take 0++cs++cur.toArray.toList.drop (0 + cs.length)).toArray=cs.toArray:=by
   simp [hl,hcur]
  rw [e1] at hrun;unfold Oper.wp;simp [execOp,resolve,invoke,builtin,st.agree.eval hx,st.agree.eval hy,hrun,Result.andThen]
  refine hK _ _ (h _ _ ?_)
  have e2:goInt cs.length = .int .i64 (l:Int):=by rw [hl];rfl
  rw [e2];have st2:=st.put (Nat.le_of_ble_eq_true hd) (.int .i64 (l:Int));exact ⟨st2.size,st2.agree,st2.defers,st.mem.upd_new hu rfl rfl rfl (by simp) (fun k _ hk=>setRow_other w g k _ hk) (setRow_heap w g cur.toArray cs.toArray T0 _ hb)⟩
end
variable {P:Program} {r:Regs} {W:World} {chg news:Blks}
end Go.Eng
namespace Go.Eng
open Go Go.RowKit
structure FRow (O:Type) where
 d:Nat
 deps:List Nat
 D:List Nat
 F:List O→Value
 G:List O→Blks
def upd {O:Type} (x:Nat→O) (i:Nat) (y:O):Nat→O:=fun m=>bif Nat.beq m i then y else x m
theorem DJ4 {O:Type} {x:Nat→O} {i m:Nat} {y:O} (h:m ≠ i):upd x i y m=x m:=by
 unfold upd
 have:Nat.beq m i=false:=Bool.eq_false_iff.2 fun e=>h (Nat.eq_of_beq_eq_true e)
 rw [this];rfl
theorem Cz5 {O:Type} {x:Nat→O} {i:Nat} {y:O} {D:List Nat} (h:i ∉ D):D.map (upd x i y)=D.map x :=
 List.map_congr_left fun m hm=>DJ4 (fun e=>h (e ▸ hm))
section
variable {O:Type}
def FRow.val (x:Nat→O) (r:FRow O):Value:=r.F (r.D.map x)
def FRow.blk (x:Nat→O) (r:FRow O):Blks:=r.G (r.D.map x)
def rowV (rows:List (FRow O)) (x:Nat→O) (j:Nat):Nat×Value:=match rows[j]? with
 | some r=>(r.d,r.val x)
 | none=>(0,undef)
def rowB (rows:List (FRow O)) (x:Nat→O) (j:Nat):Blks:=match rows[j]? with
 | some r=>r.blk x
 | none=>[]
def OpOk (P:Program) (ops:Array Oper) (n:Nat) (W:World) (chg:Blks) (r:Regs) (news:Blks) (i d:Nat) (v:O→Value) (nb:O→Blks):Prop :=
 (∃ o,ops[i]? = some o∧o.dst=some d)∧∀ (Q:Exit→Act→World→Prop) (K:Act→World→Prop) (a:Act) (w:World),a.tmps.size=n→Agree a r→Mem W chg news w→(∀ y w',Mem w [] (nb y) w'→K (a.put (some d) (v y)) w')→wpOp P ops Q i K a w
section
variable {P:Program} {ops:Array Oper} {n:Nat} {W:World} {chg:Blks} {r:Regs} {news:Blks} {i d:Nat}
theorem OpOk.val [Inhabited O] {o:Oper} {v:Value} (ho:ops[i]? = some o) (hv:Val P r W chg news o v) (hg:guardB ops r o.guard=some true) (hd:o.dst=some d):OpOk (O:=O) P ops n W chg r news i d (fun _=>v) (fun _=>[]) :=
 ⟨⟨o,ho,hd⟩,fun Q K a w hs ha hm hK=>by
   unfold wpOp;simp only [ho,Ad5 ha hg,if_true,Oper.wp,hv.run a w ha hm,Oper.upon_value,hd];exact .inl (hK default _ (Mem.refl _))⟩
theorem OpOk.new {o:Oper} {v:Nat→Value} {ob:Obj} (ho:ops[i]? = some o) (hv:New P r W chg news o v ob) (hg:guardB ops r o.guard=some true) (hd:o.dst=some d):OpOk (O:=Nat) P ops n W chg r news i d v (fun b=>[(b,ob)]) :=
 ⟨⟨o,ho,hd⟩,fun Q K a w hs ha hm hK=>by
   unfold wpOp;simp only [ho,Ad5 ha hg,if_true,Oper.wp,hv.run a w ha hm,Oper.upon_value,hd];exact .inl (hK _ _ ((Mem.refl w).alloc ob))⟩
end
def AllOk (P:Program) (ops:Array Oper) (n:Nat) (W:World) (chg:Blks) (r:Regs) (news:Blks) (rows:List (FRow O)):Nat→List (FRow O)→Prop
 | _,[]=>True
 | i,row::l=>(∀ x:Nat→O,OpOk P ops n W chg (row.deps.map (rowV rows x)++r) (row.deps.flatMap (rowB rows x)++news) i row.d (fun y=>row.F (row.D.map (upd x i y))) (fun y=>row.G (row.D.map (upd x i y))))∧AllOk P ops n W chg r news rows (i + 1) l
theorem AllOk.at {P:Program} {ops:Array Oper} {n:Nat} {W:World} {chg:Blks} {r:Regs} {news:Blks} {rows:List (FRow O)}:∀ {l:List (FRow O)} {i:Nat},AllOk P ops n W chg r news rows i l→∀ (j:Nat) (row:FRow O),l[j]? = some row→∀ x:Nat→O,OpOk P ops n W chg (row.deps.map (rowV rows x)++r) (row.deps.flatMap (rowB rows x)++news) (i + j) row.d (fun y=>row.F (row.D.map (upd x (i + j) y))) (fun y=>row.G (row.D.map (upd x (i + j) y)))
 | [],_,_,j,row,h=>by simp at h
 | r0::l,i,⟨h1,h2⟩,0,row,h=>by simp at h;subst h;exact h1
 | r0::l,i,⟨h1,h2⟩,j + 1,row,h=>by
   have:=AllOk.at h2 j row (by simpa using h)
   rw [show i + 1 + j=i + (j + 1) by omega] at this;exact this
def edgeB (ops:Array Oper) (i m:Nat):Bool:=match ops[i]? with
 | some o=>o.after.toList.any fun e=>Region.binds .any e && Nat.beq e.on m
 | none=>false
def ascB:Nat→List Nat→Bool
 | _,[]=>true
 | lo,m::l=>Nat.ble lo m && ascB (m + 1) l
theorem Ck7:∀ {l:List Nat} {lo hi:Nat},ascB lo l=true→(∀ m∈l,m < hi)→l.Sublist (List.range' lo (hi - lo))
 | [],_,_,_,_=>List.nil_sublist _
 | m::l,lo,hi,h,hm=>by
   simp only [ascB,Bool.and_eq_true] at h;have h1:lo≤m:=Nat.le_of_ble_eq_true h.1;have h2:=hm m (List.mem_cons_self ..);have ih:=Ck7 h.2 (fun x hx=>hm x (List.mem_cons_of_mem _ hx))
   have e:List.range' lo (hi - lo)=List.range' lo (m - lo)++m::List.range' (m + 1) (hi - (m + 1)):=by
    have e1:hi - lo=(m - lo) + (hi - m):=by omega
    have e2:hi - m=(hi - (m + 1)) + 1:=by omega
    rw [e1,← List.range'_append (s:=lo) (m:=m - lo) (n:=hi - m) (step:=1),e2,List.range'_succ];simp only [Nat.one_mul];rw [show lo + (m - lo)=m by omega]
   rw [e];exact (ih.cons_cons m).trans (List.sublist_append_right _ _)
structure RowOk (ops:Array Oper) (n:Nat) (rows:List (FRow O)) (i:Nat) (row:FRow O):Prop where
 dn:row.d < n
 asc:ascB 0 row.deps=true
 lt:∀ m∈row.deps,m < i
 edge:∀ m∈row.deps,edgeB ops i m=true∨∃ j∈row.deps,edgeB ops i j=true∧∃ r,rows[j]? = some r∧m∈r.deps
 dD:∀ m∈row.D,m=i∨∃ j∈row.deps,∃ r,rows[j]? = some r∧m∈r.D
def allB (rows:List (FRow O)) (listed:Array Bool) (x:Nat→O):Blks:=(List.range rows.length).flatMap fun j=>if listed.getD j false=true then rowB rows x j else []
structure FInv (ops:Array Oper) (rows:List (FRow O)) (n:Nat) (ds:List Deferred) (W:World) (chg:Blks) (r:Regs) (news:Blks) (listed:Array Bool) (x:Nat→O) (a:Act) (w:World):Prop where
 size:a.tmps.size=n
 defers:a.defers=ds
 agree:Agree a r
 done:∀ (j:Nat) (row:FRow O),rows[j]? = some row→listed.getD j false=true→a.tmps[row.d]? = some (row.val x)
 mem:Mem W chg (allB rows listed x++news) w
 tail:∀ j,rows.length≤j→listed.getD j false=false
 lsize:listed.size=ops.size
 closed:Closed ops listed
theorem Dx5 {listed:Array Bool} {j:Nat} (h:j < listed.size):listed.getD j true=listed.getD j false:=by simp [h]
theorem De5 {q r:Regs} {t:Nat} {v:Value} (h:rget (q++r) t=some v):rget q t=some v∨rget r t=some v:=by
 induction q with
 | nil=>exact .inr h
 | cons e q ih =>
   obtain ⟨k,u⟩:=e;simp only [List.cons_append,rget] at h ⊢
   split at h
   · exact .inl h
   · exact ih h
theorem Cg1:∀ {q:Regs} {t:Nat} {v:Value},rget q t=some v→(t,v)∈q
 | (k,u)::q,t,v,h=>by
   simp only [rget] at h
   split at h
   · rename_i hb
     have:=Nat.eq_of_beq_eq_true hb
     subst this
     cases h
     exact List.mem_cons_self ..
   · exact List.mem_cons_of_mem _ (Cg1 h)
theorem BL3 {g g':Nat→Blks} {i:Nat}:∀ {l:List Nat},l.Nodup→i∈l→(∀ j∈l,j ≠ i→g' j=g j)→g i=[]→(l.flatMap g').Perm (g' i++l.flatMap g)
 | j::l,hn,hi,he,h0=>by
   rw [List.nodup_cons] at hn;rw [List.flatMap_cons,List.flatMap_cons]
   by_cases hj:j=i
   · subst hj
     have e:l.flatMap g'=l.flatMap g:=by
      have:l.map g'=l.map g:=List.map_congr_left fun m hm=>he m (List.mem_cons_of_mem _ hm) (fun e=>hn.1 (e ▸ hm))
      rw [List.flatMap_def,List.flatMap_def,this]
     rw [e,h0,List.nil_append]
   · have hi2:i∈l:=by
      rcases List.mem_cons.1 hi with e | h
      · exact absurd e.symm hj
      · exact h
     have ih:=BL3 hn.2 hi2 (fun m hm=>he m (List.mem_cons_of_mem _ hm)) h0;rw [he j (List.mem_cons_self ..) hj];exact (ih.append_left (g j)).trans (List.perm_append_comm_assoc _ _ _)
theorem Dk2 {g:Nat→Blks} {l m:List Nat} (h:l.Sublist m):(l.flatMap g).Sublist (m.flatMap g):=by
 induction h with
 | slnil=>exact List.Sublist.refl _
 | cons a _ ih=>rw [List.flatMap_cons];exact ih.trans (List.sublist_append_right _ _)
 | cons_cons a _ ih=>rw [List.flatMap_cons,List.flatMap_cons];exact ih.append_left _
section
variable {P:Program} {ops:Array Oper} {n:Nat} {W:World} {chg:Blks} {r:Regs} {news:Blks} {ds:List Deferred} {rows:List (FRow O)} {listed:Array Bool} {x:Nat→O} {a:Act} {w:World}
theorem AR8 {i m:Nat} {o:Oper} (h:edgeB ops i m=true) (ho:ops[i]? = some o):∃ e∈o.after,Region.binds .any e=true∧e.on=m:=by
 unfold edgeB at h;rw [ho] at h;obtain ⟨e,he,h2⟩:=List.any_eq_true.1 h;simp only [Bool.and_eq_true] at h2;exact ⟨e,Array.mem_def.2 he,h2.1,by simpa using h2.2⟩
theorem BM1 (hrow:∀ (j:Nat) (row:FRow O),rows[j]? = some row→RowOk ops n rows j row) (hlen:rows.length≤ops.size) (hc:Closed ops listed):∀ (j:Nat) (row:FRow O),rows[j]? = some row→listed.getD j false=true→∀ m∈row.deps,listed.getD m false=true:=by
 intro j
 induction j using Nat.strongRecOn with
 | _ j ih =>
   intro row hj hl m hm;have hR:=hrow j row hj;have hjl:=(List.getElem?_eq_some_iff.1 hj).1;obtain ⟨o,ho⟩:∃ o,ops[j]? = some o:=⟨_,Array.getElem?_eq_getElem (by omega)⟩
   rcases hR.edge m hm with h1 | ⟨j',hj',h1,r',hr',hm'⟩
   · obtain ⟨e,he,hb,rfl⟩:=AR8 h1 ho
     exact hc j o ho hl e he hb
   · obtain ⟨e,he,hb,rfl⟩:=AR8 h1 ho
     exact ih e.on (hR.lt _ hj') r' hr' (hc j o ho hl e he hb) m hm'
theorem DT0 (hrow:∀ (j:Nat) (row:FRow O),rows[j]? = some row→RowOk ops n rows j row) (hlen:rows.length≤ops.size) (hc:Closed ops listed):∀ (j:Nat) (row:FRow O),rows[j]? = some row→listed.getD j false=true→∀ m∈row.D,listed.getD m false=true:=by
 intro j
 induction j using Nat.strongRecOn with
 | _ j ih =>
   intro row hj hl m hm;have hR:=hrow j row hj
   rcases hR.dD m hm with rfl | ⟨j',hj',r',hr',hm'⟩
   · exact hl
   · exact ih j' (hR.lt _ hj') r' hr' (BM1 hrow hlen hc j row hj hl j' hj') m hm'
theorem FInv.step (hrow:∀ (j:Nat) (row:FRow O),rows[j]? = some row→RowOk ops n rows j row) (hdd:∀ (j j2:Nat) (r r2:FRow O),rows[j]? = some r→rows[j2]? = some r2→j ≠ j2→r.d ≠ r2.d) (hlen:rows.length≤ops.size)
  (hr:∀ t v,rget r t=some v→∀ row∈rows,row.d ≠ t) (hok:AllOk P ops n W chg r news rows 0 rows) (h:FInv ops rows n ds W chg r news listed x a w) {i:Nat} (hi:i < rows.length) (hrd:i∈Region.ready .any ops listed) {Q:Exit→Act→World→Prop} {K:Act→World→Prop}
  (hK:∀ x' a' w',FInv ops rows n ds W chg r news (listed.setIfInBounds i true) x' a' w'→K a' w'):wpOp P ops Q i K a w:=by
 obtain ⟨row,hri⟩:∃ row,rows[i]? = some row:=⟨_,List.getElem?_eq_getElem hi⟩;have hR:=hrow i row hri;obtain ⟨hun,o,ho,AH6⟩:=mem_ready.1 hrd;have hsz:i < listed.size:=by rw [h.lsize];omega
 have hun':listed.getD i false=false:=by rw [← Dx5 hsz];exact hun
 have hdep:∀ m∈row.deps,listed.getD m false=true:=fun m hm=>by
  rcases hR.edge m hm with h1 | ⟨j',hj',h1,r',hr',hm'⟩
  · obtain ⟨e,he,hb,rfl⟩:=AR8 h1 ho
    exact AH6 e he hb
  · obtain ⟨e,he,hb,rfl⟩:=AR8 h1 ho
    exact BM1 hrow hlen h.closed e.on r' hr' (AH6 e he hb) m hm'
 have hOk:=hok.at i row hri x;rw [Nat.zero_add] at hOk;obtain ⟨⟨o',ho',hod⟩,hrun⟩:=hOk
 have hag:Agree a (row.deps.map (rowV rows x)++r):=fun t v ht=>by
  rcases De5 ht with h1 | h1
  · obtain ⟨j,hj,he⟩:=List.mem_map.1 (Cg1 h1)
    obtain ⟨rj,hrj⟩:∃ rj,rows[j]? = some rj:=⟨_,List.getElem?_eq_getElem (by have:=hR.lt j hj;omega)⟩;have e1:rowV rows x j=(rj.d,rj.val x):=by unfold rowV;rw [hrj]
    rw [e1] at he
    cases he
    exact h.done j rj hrj (hdep j hj)
  · exact h.agree t v h1
 have hsub:(row.deps.flatMap (rowB rows x)).Sublist (allB rows listed x):=by
  have h1:=Ck7 (hi:=rows.length) hR.asc (fun m hm=>by have:=hR.lt m hm;omega);have h2:row.deps.Sublist (List.range rows.length):=by rw [List.range_eq_range'];simpa using h1
  have e:row.deps.flatMap (rowB rows x)=row.deps.flatMap fun j=>if listed.getD j false=true then rowB rows x j else []:=by
   have:row.deps.map (rowB rows x)=row.deps.map fun j=>if listed.getD j false=true then rowB rows x j else []:=List.map_congr_left fun m hm=>by rw [if_pos (hdep m hm)]
   rw [List.flatMap_def,List.flatMap_def,this]
  rw [e];exact Dk2 h2
 have hmem:Mem W chg (row.deps.flatMap (rowB rows x)++news) w:=h.mem.fewer (hsub.append_right news);refine hrun Q K a w h.size hag hmem fun y w' hw'=>?_
 have hnotD:∀ (j:Nat) (rj:FRow O),rows[j]? = some rj→listed.getD j false=true→i ∉ rj.D:=fun j rj hj hl hm=>by
  have:=DT0 hrow hlen h.closed j rj hj hl i hm
  rw [hun'] at this
  cases this
 have hclosed:=h.closed.step hrd;have hdn:row.d < a.tmps.size:=by rw [h.size];exact hR.dn
 refine hK (upd x i y) _ _ ⟨by simp [Act.put,h.size],h.defers,fun t v ht=>?_,fun j rj hj hl=>?_,?_,fun j hj=>?_,by simp [h.lsize],hclosed⟩
 · have hne:=hr t v ht row (List.mem_of_getElem? hri)
   have:=h.agree t v ht
   simp [Act.put,Array.getElem?_setIfInBounds_ne hne,this]
 · by_cases hji:j=i
   · subst hji
     rw [hri] at hj
     cases hj
     simp [Act.put,hdn,FRow.val]
   · rw [getD_set_ne false (Ne.symm hji)] at hl
     have hd2:=hdd i j row rj hri hj (Ne.symm hji);have h1:=h.done j rj hj hl;simp only [Act.put];rw [Array.getElem?_setIfInBounds_ne hd2,h1];unfold FRow.val;rw [Cz5 (hnotD j rj hj hl)]
 · have h1:=h.mem.trans hw'
   refine h1.perm ?_;rw [← List.append_assoc];refine List.Perm.append_right news (List.Perm.symm ?_)
   have e1:row.G (row.D.map (upd x i y))=(fun j=>if (listed.setIfInBounds i true).getD j false=true then rowB rows (upd x i y) j else []) i:=by
    have e2:(listed.setIfInBounds i true).getD i false=true:=by simp [hsz]
    show _=if (listed.setIfInBounds i true).getD i false=true then rowB rows (upd x i y) i else []
    rw [if_pos e2];unfold rowB;rw [hri];rfl
   show (allB rows (listed.setIfInBounds i true) (upd x i y)).Perm (row.G (row.D.map (upd x i y))++allB rows listed x)
   rw [e1];unfold allB;refine BL3 List.nodup_range (List.mem_range.2 hi) (fun j hj hne=>?_) (by show (if listed.getD i false=true then rowB rows x i else [])=[];rw [hun'];rfl)
   rw [getD_set_ne false (Ne.symm hne)]
   cases hl:listed.getD j false with
   | false=>rfl
   | true =>
     rw [if_pos rfl,if_pos rfl];unfold rowB
     cases hj2:rows[j]? with
     | none=>rfl
     | some rj =>
       show rj.G (rj.D.map (upd x i y))=rj.G (rj.D.map x)
       rw [Cz5 (hnotD j rj hj2 hl)]
 · rw [getD_set_ne false (by omega)]
   exact h.tail j hj
theorem AllOk.nil {P:Program} {ops:Array Oper} {n:Nat} {W:World} {chg:Blks} {r:Regs} {news:Blks} {rows:List (FRow O)} {i:Nat}:AllOk P ops n W chg r news rows i []:=trivial
theorem AllOk.cons {P:Program} {ops:Array Oper} {n:Nat} {W:World} {chg:Blks} {r:Regs} {news:Blks} {rows:List (FRow O)} {i:Nat} {row:FRow O} {l:List (FRow O)} (h:∀ x:Nat→O,OpOk P ops n W chg (row.deps.map (rowV rows x)++r) (row.deps.flatMap (rowB rows x)++news) i row.d (fun y=>row.F (row.D.map (upd x i y))) (fun y=>row.G (row.D.map (upd x i y))))
  (hl:AllOk P ops n W chg r news rows (i + 1) l):AllOk P ops n W chg r news rows i (row::l):=⟨h,hl⟩
end
end
theorem st {p q:Prop} (k:q) (h:q→p:=by intro k;(repeat first | refine Go.Eng.vp rfl rfl rfl rfl ?_ | refine Go.Eng.RunL.nil ?_ | refine Go.Eng.RunE.next ?_ | refine Go.Eng.RunC.seq ?_ | refine Go.Eng.RunC.region ?_ | refine Go.Eng.RunC.skip ?_ | refine Go.Eng.RunC.block ?_ | refine Go.Eng.Ac4 ?_);exact k):p:=h k
theorem sv {p q:Prop} (k:q) (h:q→p:=by intro k;(repeat refine Go.Eng.vp rfl rfl rfl rfl ?_);exact k):p:=h k
section
variable {P:Program} {ops:Array Oper} {Q:Exit→Act→World→Prop} {n:Nat} {r:Regs} {ds:List Deferred} {W:World} {chg news:Blks} {rest:List Oper} {d:Nat}
theorem lv {o:Oper} {v:Value} {q:Prop} (hv:Val P r W chg news o v) (k:q) (hg:guardB ops r o.guard=some true:=by rfl) (hd:o.dst=some d:=by rfl) (hn:Nat.ble (d + 1) n=true:=by rfl)
  (h:q→RunL P ops Q n rest ((d,v)::r) ds W chg news:=by intro k;(repeat first | refine Go.Eng.vp rfl rfl rfl rfl ?_ | refine Go.Eng.RunL.nil ?_ | refine Go.Eng.RunE.next ?_ | refine Go.Eng.RunC.seq ?_ | refine Go.Eng.RunC.region ?_ | refine Go.Eng.RunC.skip ?_ | refine Go.Eng.RunC.block ?_ | refine Go.Eng.Ac4 ?_);exact k) :
  RunL P ops Q n (o::rest) r ds W chg news:=Bc1 hv hg hd hn (h k)
theorem cn {c:Operand} {x y:Code} {t:Bool} {A B:Prop} (hc:rev r c=some (.bool t)) (ht:A→RunC P Q n x r ds W chg news) (hf:B→RunC P Q n y r ds W chg news)
  (ha:t=true→A:=by intro h;(try simp only [Go.Eng.nH] at h);exact h) (hb:t=false→B:=by intro h;(try simp only [Go.Eng.nH] at h);exact h):RunC P Q n (.cond c x y) r ds W chg news:=RunC.cond hc (fun h=>ht (ha h)) fun h=>hf (hb h)
end
class Fld (P:Program) (T:TypeId) (i:Nat) (off:outParam Nat):Prop where
 h:fieldB P T i=some off
class Tyc (P:Program) (T:TypeId) (agg:outParam Bool) (sz:outParam Nat):Prop where
 h:tyB P T=some (agg,sz)
class Slc (P:Program) (T:TypeId) (e:outParam TypeId) (sz:outParam Nat):Prop where
 h:slB P T=some (e,sz)
theorem zF {P:Program} {r:Regs} {ty:TypeId} {pos:String} {after:Array Edge} {f:FuncId} {xs:List Operand} {vs:List Value} {ats:Array TypeId} {dst:Option Tmp} {gd:Option (Nat×Bool)} (hx:revs r xs=some vs) (he:Enters P f) :
  IsCall P r { dst,op:=.call { callee:=.value (.func f),args:=xs.toArray,argTypes:=ats },type:=ty,pos,after,guard:=gd } f vs.toArray:=Ab8 hx he
theorem zS {q r:Regs} (t:Nat) {v:Value} (h:rget r t=some v) (hs:Sub q r):Sub ((t,v)::q) r:=Sub.cons h hs
theorem zE {q r:Regs} (t:Nat) {u v:Value} (h:rget r t=some u) (he:u=v) (hs:Sub q r):Sub ((t,v)::q) r:=Ae6 h he hs
theorem zs {α:Type} {a b:α} {G:Prop} (g:a=b) (h:a=b→G:=by intro g;refine Go.Eng.Ac1 (Go.Eng.Sub.cons rfl ?_) (List.Sublist.refl _);repeat first | exact Go.Eng.Ab3 _ | refine Go.Eng.Ad2 rfl (by rw [g]) ?_ | refine Go.Eng.Sub.skip rfl ?_):G:=h g
section
variable {P:Program} {ops:Array Oper} {Q:Exit→Act→World→Prop} {n:Nat} {r:Regs} {ds:List Deferred} {W:World} {chg news:Blks} {rest:List Oper} {d:Nat}
theorem zv {k fuel:Nat} {listed:Array Bool} {chg0 news0:Blks} (i:Nat) {o:Oper} {v:Value} (ho:ops[i]? = some o) (hv:Val P r W chg0 news0 o v)
  (h:RunA P ops Q k (fun c=>c=chg0) news0 n fuel (listed.setIfInBounds i true) ((d,v)::r) ds W chg news) (hg:guardB ops r o.guard=some true:=by rfl) (hd:o.dst=some d:=by rfl) (hn:Nat.ble (d + 1) n=true:=by rfl)
  (hs:Pick news0 news:=by repeat first | exact Go.Eng.Pick.nil | refine Go.Eng.Pick.cons (Go.Eng.Take.here) rfl ?_ | refine Go.Eng.Pick.cons (.there .here) rfl ?_ | refine Go.Eng.Pick.cons (.there (.there .here)) rfl ?_ | refine Go.Eng.Pick.cons (.there (.there (.there .here))) rfl ?_ | refine Go.Eng.Pick.cons (.there (.there (.there (.there .here)))) rfl ?_ | refine Go.Eng.Pick.cons (.there (.there (.there (.there (.there .here))))) rfl ?_ | refine Go.Eng.Pick.cons (.there (.there (.there (.there (.there (.there .here)))))) rfl ?_)
  (hc:chg=chg0:=by rfl) (hQ:∀ c a w,Q (.panic c) (a.put o.dst v) w→Q (.panic c) a w:=by exact fun _ _ _ h=>h) (hf:freeB ops k i=true:=by kernel_rfl) (hr:readyB ops listed i=true:=by kernel_rfl) :
  RunA P ops Q k (fun c=>c=chg0) news0 n (fuel + 1) listed r ds W chg news:=va i ho hv hg hd hn hs hc h hQ hf hr
theorem zw {k fuel:Nat} {listed:Array Bool} {chg0 news0:Blks} (i:Nat) {o:Oper} {v:Value} (h:RunA P ops Q k (fun c=>c=chg0) news0 n fuel (listed.setIfInBounds i true) ((d,v)::r) ds W chg news) (ho:ops[i]? = some o:=by rfl) (hv:Val P r W chg0 news0 o v:=by first | exact Go.Eng.Aa8 rfl | exact Go.Eng.Val.fieldAddr rfl Go.Eng.Fld.h | exact Go.Eng.Ae3 rfl Go.Eng.Slc.h | exact Go.Eng.Aa6 rfl (.head _) Go.Eng.Tyc.h rfl | exact Go.Eng.Ab5 rfl (.head _) Go.Eng.Tyc.h rfl | exact Go.Eng.Aa6 rfl (.tail _ (.head _)) Go.Eng.Tyc.h rfl | exact Go.Eng.Ab5 rfl (.tail _ (.head _)) Go.Eng.Tyc.h rfl | exact Go.Eng.Aa6 rfl (.tail _ (.tail _ (.head _))) Go.Eng.Tyc.h rfl | exact Go.Eng.Ab5 rfl (.tail _ (.tail _ (.head _))) Go.Eng.Tyc.h rfl | exact Go.Eng.Aa6 rfl (.tail _ (.tail _ (.tail _ (.head _)))) Go.Eng.Tyc.h rfl | exact Go.Eng.Ab5 rfl (.tail _ (.tail _ (.tail _ (.head _)))) Go.Eng.Tyc.h rfl | exact Go.Eng.Aa6 rfl (.tail _ (.tail _ (.tail _ (.tail _ (.head _))))) Go.Eng.Tyc.h rfl | exact Go.Eng.Ab5 rfl (.tail _ (.tail _ (.tail _ (.tail _ (.head _))))) Go.Eng.Tyc.h rfl | exact Go.Eng.Aa6 rfl (.tail _ (.tail _ (.tail _ (.tail _ (.tail _ (.head _)))))) Go.Eng.Tyc.h rfl | exact Go.Eng.Ab5 rfl (.tail _ (.tail _ (.tail _ (.tail _ (.tail _ (.head _)))))) Go.Eng.Tyc.h rfl) (hg:guardB ops r o.guard=some true:=by rfl) (hd:o.dst=some d:=by rfl) (hn:Nat.ble (d + 1) n=true:=by rfl)
  (hs:Pick news0 news:=by repeat first | exact Go.Eng.Pick.nil | refine Go.Eng.Pick.cons (Go.Eng.Take.here) rfl ?_ | refine Go.Eng.Pick.cons (.there .here) rfl ?_ | refine Go.Eng.Pick.cons (.there (.there .here)) rfl ?_ | refine Go.Eng.Pick.cons (.there (.there (.there .here))) rfl ?_ | refine Go.Eng.Pick.cons (.there (.there (.there (.there .here)))) rfl ?_ | refine Go.Eng.Pick.cons (.there (.there (.there (.there (.there .here))))) rfl ?_ | refine Go.Eng.Pick.cons (.there (.there (.there (.there (.there (.there .here)))))) rfl ?_)
  (hc:chg=chg0:=by rfl) (hQ:∀ c a w,Q (.panic c) (a.put o.dst v) w→Q (.panic c) a w:=by exact fun _ _ _ h=>h) (hf:freeB ops k i=true:=by kernel_rfl) (hr:readyB ops listed i=true:=by kernel_rfl) :
  RunA P ops Q k (fun c=>c=chg0) news0 n (fuel + 1) listed r ds W chg news:=va i ho hv hg hd hn hs hc h hQ hf hr
theorem zp {fuel:Nat} {listed:Array Bool} (i:Nat) {o:Oper} {v:Value} (h:RunB P ops Q n fuel (listed.setIfInBounds i true) ((d,v)::r) ds W chg news) (ho:ops[i]? = some o:=by rfl) (hv:Val P r W chg news o v:=by first | exact Go.Eng.Aa8 rfl | exact Go.Eng.Val.fieldAddr rfl Go.Eng.Fld.h | exact Go.Eng.Ae3 rfl Go.Eng.Slc.h | exact Go.Eng.Aa6 rfl (.head _) Go.Eng.Tyc.h rfl | exact Go.Eng.Ab5 rfl (.head _) Go.Eng.Tyc.h rfl | exact Go.Eng.Aa6 rfl (.tail _ (.head _)) Go.Eng.Tyc.h rfl | exact Go.Eng.Ab5 rfl (.tail _ (.head _)) Go.Eng.Tyc.h rfl | exact Go.Eng.Aa6 rfl (.tail _ (.tail _ (.head _))) Go.Eng.Tyc.h rfl | exact Go.Eng.Ab5 rfl (.tail _ (.tail _ (.head _))) Go.Eng.Tyc.h rfl | exact Go.Eng.Aa6 rfl (.tail _ (.tail _ (.tail _ (.head _)))) Go.Eng.Tyc.h rfl | exact Go.Eng.Ab5 rfl (.tail _ (.tail _ (.tail _ (.head _)))) Go.Eng.Tyc.h rfl | exact Go.Eng.Aa6 rfl (.tail _ (.tail _ (.tail _ (.tail _ (.head _))))) Go.Eng.Tyc.h rfl | exact Go.Eng.Ab5 rfl (.tail _ (.tail _ (.tail _ (.tail _ (.head _))))) Go.Eng.Tyc.h rfl | exact Go.Eng.Aa6 rfl (.tail _ (.tail _ (.tail _ (.tail _ (.tail _ (.head _)))))) Go.Eng.Tyc.h rfl | exact Go.Eng.Ab5 rfl (.tail _ (.tail _ (.tail _ (.tail _ (.tail _ (.head _)))))) Go.Eng.Tyc.h rfl) (hg:guardB ops r o.guard=some true:=by rfl) (hd:o.dst=some d:=by rfl) (hn:Nat.ble (d + 1) n=true:=by rfl) (hr:Region.ready .any ops listed=[i]:=by kernel_rfl) :
  RunB P ops Q n (fuel + 1) listed r ds W chg news:=RunB.one hr (BB8 ho hv hg hd hn (Ab2 h))
theorem zN {k fuel:Nat} {listed:Array Bool} {cp:Blks→Prop} {news0:Blks} (i:Nat) {o:Oper} (h:RunA P ops Q k cp news0 n fuel (listed.setIfInBounds i true) ((d,undef)::r) ds W chg news) (ho:ops[i]? = some o:=by rfl) (hf:freeB ops k i=true:=by kernel_rfl) (hr:readyB ops listed i=true:=by kernel_rfl)
  (hg:guardB ops r o.guard=some false:=by rfl) (hd:o.dst=some d:=by rfl) (hn:Nat.ble (d + 1) n=true:=by rfl) (hQ:∀ c a w,Q (.panic c) (a.put o.dst undef) w→Q (.panic c) a w:=by exact fun _ _ _ h=>h)
  (hs:Pick news0 news:=by repeat first | exact Go.Eng.Pick.nil | refine Go.Eng.Pick.cons (Go.Eng.Take.here) rfl ?_ | refine Go.Eng.Pick.cons (.there .here) rfl ?_ | refine Go.Eng.Pick.cons (.there (.there .here)) rfl ?_ | refine Go.Eng.Pick.cons (.there (.there (.there .here))) rfl ?_ | refine Go.Eng.Pick.cons (.there (.there (.there (.there .here)))) rfl ?_ | refine Go.Eng.Pick.cons (.there (.there (.there (.there (.there .here))))) rfl ?_)
  (hc:cp chg:=by rfl):RunA P ops Q k cp news0 n (fuel + 1) listed r ds W chg news:=CY1 ho hf hr hg hd hn hQ hs hc h
theorem zA {k fuel:Nat} {listed:Array Bool} {cp:Blks→Prop} {news0:Blks} (i:Nat) (h:RunI P ops Q n i (NextA P ops Q k W cp news0 fuel (listed.setIfInBounds i true)) r ds W chg news) (hr:Region.ready .any ops listed=[i]:=by kernel_rfl) (hd:doneB k listed=false:=by kernel_rfl) :
  RunA P ops Q k cp news0 n (fuel + 1) listed r ds W chg news:=RunA.one hr hd h
theorem zt {k fuel:Nat} {listed:Array Bool} {cp:Blks→Prop} {news0:Blks} (h:RunB P ops Q n (fuel + 1) listed r ds W chg news) (hd:doneB k listed=true:=by kernel_rfl):RunA P ops Q k cp news0 n (fuel + 1) listed r ds W chg news:=AA8 hd h
theorem zB {fuel:Nat} {listed:Array Bool} (i:Nat) (h:RunI P ops Q n i (wpAny P .any ops Q fuel (listed.setIfInBounds i true)) r ds W chg news) (hr:Region.ready .any ops listed=[i]:=by kernel_rfl):RunB P ops Q n (fuel + 1) listed r ds W chg news:=RunB.one hr h
theorem zd {fuel:Nat} {listed:Array Bool} (h:RunE Q n .normal r ds W chg news) (hr:Region.ready .any ops listed=[]:=by kernel_rfl):RunB P ops Q n fuel listed r ds W chg news:=RunB.done hr h
theorem zo {fuel:Nat} {listed:Array Bool} (i:Nat) {o:Oper} {v:Value} (ho:ops[i]? = some o) (hv:Val P r W chg news o v) (h:RunB P ops Q n fuel (listed.setIfInBounds i true) ((d,v)::r) ds W chg news) (hg:guardB ops r o.guard=some true:=by rfl) (hd:o.dst=some d:=by rfl) (hn:Nat.ble (d + 1) n=true:=by rfl) (hr:Region.ready .any ops listed=[i]:=by kernel_rfl) :
  RunB P ops Q n (fuel + 1) listed r ds W chg news:=RunB.one hr (BB8 ho hv hg hd hn (Ab2 h))
theorem zq {fuel:Nat} {listed:Array Bool} (i:Nat) {o:Oper} {f:FuncId} {args:Array Value} {v:Value} (ho:ops[i]? = some o) (hi:IsCall P r o f args) (hc:∀ w,Mem W chg news w→Calls P f args w (Pure v w)) (h:RunB P ops Q n fuel (listed.setIfInBounds i true) ((d,v)::r) ds W chg news) (hg:guardB ops r o.guard=some true:=by rfl) (hd:o.dst=some d:=by rfl) (hn:Nat.ble (d + 1) n=true:=by rfl) (hr:Region.ready .any ops listed=[i]:=by kernel_rfl) :
  RunB P ops Q n (fuel + 1) listed r ds W chg news:=RunB.one hr (Bs4 ho hi hg hd hn hc (Ab2 h))
theorem zc {o:Oper} {f:FuncId} {args:Array Value} {v:Value} {q:Prop} (hi:IsCall P r o f args) (hc:∀ w,Mem W chg news w→Calls P f args w (Pure v w)) (k:q) (hg:guardB ops r o.guard=some true:=by rfl) (hd:o.dst=some d:=by rfl) (hn:Nat.ble (d + 1) n=true:=by rfl)
  (h:q→RunL P ops Q n rest ((d,v)::r) ds W chg news:=by intro k;(repeat first | refine Go.Eng.vp rfl rfl rfl rfl ?_ | with_reducible refine Go.Eng.RunL.nil ?_ | with_reducible refine Go.Eng.RunE.next ?_ | with_reducible refine Go.Eng.RunC.seq ?_ | with_reducible refine Go.Eng.RunC.region ?_ | with_reducible refine Go.Eng.RunC.skip ?_ | with_reducible refine Go.Eng.RunC.block ?_ | with_reducible refine Go.Eng.Ac4 ?_ | with_reducible refine Go.Eng.RunC.ret ?_ | with_reducible refine Go.Eng.Ad4 ?_ | with_reducible refine Go.Eng.Ad1 ?_ | with_reducible refine Go.Eng.Ac0 ?_ | refine Go.Eng.DI3 rfl rfl rfl ?_ | refine Go.Eng.Bc1 (Go.Eng.Val.fieldAddr rfl Go.Eng.Fld.h) rfl rfl rfl ?_ | refine Go.Eng.Bc1 (Go.Eng.Ae3 rfl Go.Eng.Slc.h) rfl rfl rfl ?_ | refine Go.Eng.Bc1 (Go.Eng.Aa6 rfl (.head _) Go.Eng.Tyc.h rfl) rfl rfl rfl ?_ | refine Go.Eng.Bc1 (Go.Eng.Ab5 rfl (.head _) Go.Eng.Tyc.h rfl) rfl rfl rfl ?_ | refine Go.Eng.Bc1 (Go.Eng.Aa6 rfl (.tail _ (.head _)) Go.Eng.Tyc.h rfl) rfl rfl rfl ?_ | refine Go.Eng.Bc1 (Go.Eng.Ab5 rfl (.tail _ (.head _)) Go.Eng.Tyc.h rfl) rfl rfl rfl ?_ | refine Go.Eng.Bc1 (Go.Eng.Aa6 rfl (.tail _ (.tail _ (.head _))) Go.Eng.Tyc.h rfl) rfl rfl rfl ?_ | refine Go.Eng.Bc1 (Go.Eng.Ab5 rfl (.tail _ (.tail _ (.head _))) Go.Eng.Tyc.h rfl) rfl rfl rfl ?_ | refine Go.Eng.Bc1 (Go.Eng.Aa6 rfl (.tail _ (.tail _ (.tail _ (.head _)))) Go.Eng.Tyc.h rfl) rfl rfl rfl ?_ | refine Go.Eng.Bc1 (Go.Eng.Ab5 rfl (.tail _ (.tail _ (.tail _ (.head _)))) Go.Eng.Tyc.h rfl) rfl rfl rfl ?_ | refine Go.Eng.Bc1 (Go.Eng.Aa6 rfl (.tail _ (.tail _ (.tail _ (.tail _ (.head _))))) Go.Eng.Tyc.h rfl) rfl rfl rfl ?_ | refine Go.Eng.Bc1 (Go.Eng.Ab5 rfl (.tail _ (.tail _ (.tail _ (.tail _ (.head _))))) Go.Eng.Tyc.h rfl) rfl rfl rfl ?_ | refine Go.Eng.Bc1 (Go.Eng.Aa6 rfl (.tail _ (.tail _ (.tail _ (.tail _ (.tail _ (.head _)))))) Go.Eng.Tyc.h rfl) rfl rfl rfl ?_ | refine Go.Eng.Bc1 (Go.Eng.Ab5 rfl (.tail _ (.tail _ (.tail _ (.tail _ (.tail _ (.head _)))))) Go.Eng.Tyc.h rfl) rfl rfl rfl ?_);exact k):RunL P ops Q n (o::rest) r ds W chg news:=Bs3 hi hg hd hn hc (h k)
theorem lu {o:Oper} {v:Value} {q:Prop} (hv:Val P r W chg news o v) (k:q) (hg:guardB ops r o.guard=some true:=by rfl) (hd:o.dst=some d:=by rfl) (hn:Nat.ble (d + 1) n=true:=by rfl)
  (h:q→RunL P ops Q n rest ((d,v)::r) ds W chg news:=by intro k;(repeat first | refine Go.Eng.vp rfl rfl rfl rfl ?_ | with_reducible refine Go.Eng.RunL.nil ?_ | with_reducible refine Go.Eng.RunE.next ?_ | with_reducible refine Go.Eng.RunC.seq ?_ | with_reducible refine Go.Eng.RunC.region ?_ | with_reducible refine Go.Eng.RunC.skip ?_ | with_reducible refine Go.Eng.RunC.block ?_ | with_reducible refine Go.Eng.Ac4 ?_ | with_reducible refine Go.Eng.RunC.ret ?_ | with_reducible refine Go.Eng.Ad4 ?_ | with_reducible refine Go.Eng.Ad1 ?_ | with_reducible refine Go.Eng.Ac0 ?_ | refine Go.Eng.DI3 rfl rfl rfl ?_ | refine Go.Eng.Bc1 (Go.Eng.Val.fieldAddr rfl Go.Eng.Fld.h) rfl rfl rfl ?_ | refine Go.Eng.Bc1 (Go.Eng.Ae3 rfl Go.Eng.Slc.h) rfl rfl rfl ?_ | refine Go.Eng.Bc1 (Go.Eng.Aa6 rfl (.head _) Go.Eng.Tyc.h rfl) rfl rfl rfl ?_ | refine Go.Eng.Bc1 (Go.Eng.Ab5 rfl (.head _) Go.Eng.Tyc.h rfl) rfl rfl rfl ?_ | refine Go.Eng.Bc1 (Go.Eng.Aa6 rfl (.tail _ (.head _)) Go.Eng.Tyc.h rfl) rfl rfl rfl ?_ | refine Go.Eng.Bc1 (Go.Eng.Ab5 rfl (.tail _ (.head _)) Go.Eng.Tyc.h rfl) rfl rfl rfl ?_ | refine Go.Eng.Bc1 (Go.Eng.Aa6 rfl (.tail _ (.tail _ (.head _))) Go.Eng.Tyc.h rfl) rfl rfl rfl ?_ | refine Go.Eng.Bc1 (Go.Eng.Ab5 rfl (.tail _ (.tail _ (.head _))) Go.Eng.Tyc.h rfl) rfl rfl rfl ?_ | refine Go.Eng.Bc1 (Go.Eng.Aa6 rfl (.tail _ (.tail _ (.tail _ (.head _)))) Go.Eng.Tyc.h rfl) rfl rfl rfl ?_ | refine Go.Eng.Bc1 (Go.Eng.Ab5 rfl (.tail _ (.tail _ (.tail _ (.head _)))) Go.Eng.Tyc.h rfl) rfl rfl rfl ?_ | refine Go.Eng.Bc1 (Go.Eng.Aa6 rfl (.tail _ (.tail _ (.tail _ (.tail _ (.head _))))) Go.Eng.Tyc.h rfl) rfl rfl rfl ?_ | refine Go.Eng.Bc1 (Go.Eng.Ab5 rfl (.tail _ (.tail _ (.tail _ (.tail _ (.head _))))) Go.Eng.Tyc.h rfl) rfl rfl rfl ?_ | refine Go.Eng.Bc1 (Go.Eng.Aa6 rfl (.tail _ (.tail _ (.tail _ (.tail _ (.tail _ (.head _)))))) Go.Eng.Tyc.h rfl) rfl rfl rfl ?_ | refine Go.Eng.Bc1 (Go.Eng.Ab5 rfl (.tail _ (.tail _ (.tail _ (.tail _ (.tail _ (.head _)))))) Go.Eng.Tyc.h rfl) rfl rfl rfl ?_);exact k):RunL P ops Q n (o::rest) r ds W chg news:=Bc1 hv hg hd hn (h k)
theorem zn {o:Oper} {v:Nat→Value} {ob:Obj} {q:Nat→Prop} (hv:New P r W chg news o v ob) (k:∀ b,q b) (hg:guardB ops r o.guard=some true:=by rfl) (hd:o.dst=some d:=by rfl) (hn:Nat.ble (d + 1) n=true:=by rfl)
  (h:∀ b,q b→RunL P ops Q n rest ((d,v b)::r) ds W chg ((b,ob)::news):=by intro b;intro k;(repeat first | refine Go.Eng.vp rfl rfl rfl rfl ?_ | with_reducible refine Go.Eng.RunL.nil ?_ | with_reducible refine Go.Eng.RunE.next ?_ | with_reducible refine Go.Eng.RunC.seq ?_ | with_reducible refine Go.Eng.RunC.region ?_ | with_reducible refine Go.Eng.RunC.skip ?_ | with_reducible refine Go.Eng.RunC.block ?_ | with_reducible refine Go.Eng.Ac4 ?_ | with_reducible refine Go.Eng.RunC.ret ?_ | with_reducible refine Go.Eng.Ad4 ?_ | with_reducible refine Go.Eng.Ad1 ?_ | with_reducible refine Go.Eng.Ac0 ?_ | refine Go.Eng.DI3 rfl rfl rfl ?_ | refine Go.Eng.Bc1 (Go.Eng.Val.fieldAddr rfl Go.Eng.Fld.h) rfl rfl rfl ?_ | refine Go.Eng.Bc1 (Go.Eng.Ae3 rfl Go.Eng.Slc.h) rfl rfl rfl ?_ | refine Go.Eng.Bc1 (Go.Eng.Aa6 rfl (.head _) Go.Eng.Tyc.h rfl) rfl rfl rfl ?_ | refine Go.Eng.Bc1 (Go.Eng.Ab5 rfl (.head _) Go.Eng.Tyc.h rfl) rfl rfl rfl ?_ | refine Go.Eng.Bc1 (Go.Eng.Aa6 rfl (.tail _ (.head _)) Go.Eng.Tyc.h rfl) rfl rfl rfl ?_ | refine Go.Eng.Bc1 (Go.Eng.Ab5 rfl (.tail _ (.head _)) Go.Eng.Tyc.h rfl) rfl rfl rfl ?_ | refine Go.Eng.Bc1 (Go.Eng.Aa6 rfl (.tail _ (.tail _ (.head _))) Go.Eng.Tyc.h rfl) rfl rfl rfl ?_ | refine Go.Eng.Bc1 (Go.Eng.Ab5 rfl (.tail _ (.tail _ (.head _))) Go.Eng.Tyc.h rfl) rfl rfl rfl ?_ | refine Go.Eng.Bc1 (Go.Eng.Aa6 rfl (.tail _ (.tail _ (.tail _ (.head _)))) Go.Eng.Tyc.h rfl) rfl rfl rfl ?_ | refine Go.Eng.Bc1 (Go.Eng.Ab5 rfl (.tail _ (.tail _ (.tail _ (.head _)))) Go.Eng.Tyc.h rfl) rfl rfl rfl ?_ | refine Go.Eng.Bc1 (Go.Eng.Aa6 rfl (.tail _ (.tail _ (.tail _ (.tail _ (.head _))))) Go.Eng.Tyc.h rfl) rfl rfl rfl ?_ | refine Go.Eng.Bc1 (Go.Eng.Ab5 rfl (.tail _ (.tail _ (.tail _ (.tail _ (.head _))))) Go.Eng.Tyc.h rfl) rfl rfl rfl ?_ | refine Go.Eng.Bc1 (Go.Eng.Aa6 rfl (.tail _ (.tail _ (.tail _ (.tail _ (.tail _ (.head _)))))) Go.Eng.Tyc.h rfl) rfl rfl rfl ?_ | refine Go.Eng.Bc1 (Go.Eng.Ab5 rfl (.tail _ (.tail _ (.tail _ (.tail _ (.tail _ (.head _)))))) Go.Eng.Tyc.h rfl) rfl rfl rfl ?_);exact k):RunL P ops Q n (o::rest) r ds W chg news:=Cl4 hv hg hd hn fun b=>h b (k b)
end
theorem su {p q:Prop} (k:q) (h:q→p:=by intro k;(repeat first | refine Go.Eng.vp rfl rfl rfl rfl ?_ | with_reducible refine Go.Eng.RunL.nil ?_ | with_reducible refine Go.Eng.RunE.next ?_ | with_reducible refine Go.Eng.RunC.seq ?_ | with_reducible refine Go.Eng.RunC.region ?_ | with_reducible refine Go.Eng.RunC.skip ?_ | with_reducible refine Go.Eng.RunC.block ?_ | with_reducible refine Go.Eng.Ac4 ?_ | with_reducible refine Go.Eng.RunC.ret ?_ | with_reducible refine Go.Eng.Ad4 ?_ | with_reducible refine Go.Eng.Ad1 ?_ | with_reducible refine Go.Eng.Ac0 ?_ | refine Go.Eng.DI3 rfl rfl rfl ?_ | refine Go.Eng.Bc1 (Go.Eng.Val.fieldAddr rfl Go.Eng.Fld.h) rfl rfl rfl ?_ | refine Go.Eng.Bc1 (Go.Eng.Ae3 rfl Go.Eng.Slc.h) rfl rfl rfl ?_ | refine Go.Eng.Bc1 (Go.Eng.Aa6 rfl (.head _) Go.Eng.Tyc.h rfl) rfl rfl rfl ?_ | refine Go.Eng.Bc1 (Go.Eng.Ab5 rfl (.head _) Go.Eng.Tyc.h rfl) rfl rfl rfl ?_ | refine Go.Eng.Bc1 (Go.Eng.Aa6 rfl (.tail _ (.head _)) Go.Eng.Tyc.h rfl) rfl rfl rfl ?_ | refine Go.Eng.Bc1 (Go.Eng.Ab5 rfl (.tail _ (.head _)) Go.Eng.Tyc.h rfl) rfl rfl rfl ?_ | refine Go.Eng.Bc1 (Go.Eng.Aa6 rfl (.tail _ (.tail _ (.head _))) Go.Eng.Tyc.h rfl) rfl rfl rfl ?_ | refine Go.Eng.Bc1 (Go.Eng.Ab5 rfl (.tail _ (.tail _ (.head _))) Go.Eng.Tyc.h rfl) rfl rfl rfl ?_ | refine Go.Eng.Bc1 (Go.Eng.Aa6 rfl (.tail _ (.tail _ (.tail _ (.head _)))) Go.Eng.Tyc.h rfl) rfl rfl rfl ?_ | refine Go.Eng.Bc1 (Go.Eng.Ab5 rfl (.tail _ (.tail _ (.tail _ (.head _)))) Go.Eng.Tyc.h rfl) rfl rfl rfl ?_ | refine Go.Eng.Bc1 (Go.Eng.Aa6 rfl (.tail _ (.tail _ (.tail _ (.tail _ (.head _))))) Go.Eng.Tyc.h rfl) rfl rfl rfl ?_ | refine Go.Eng.Bc1 (Go.Eng.Ab5 rfl (.tail _ (.tail _ (.tail _ (.tail _ (.head _))))) Go.Eng.Tyc.h rfl) rfl rfl rfl ?_ | refine Go.Eng.Bc1 (Go.Eng.Aa6 rfl (.tail _ (.tail _ (.tail _ (.tail _ (.tail _ (.head _)))))) Go.Eng.Tyc.h rfl) rfl rfl rfl ?_ | refine Go.Eng.Bc1 (Go.Eng.Ab5 rfl (.tail _ (.tail _ (.tail _ (.tail _ (.tail _ (.head _)))))) Go.Eng.Tyc.h rfl) rfl rfl rfl ?_);exact k):p:=h k
theorem qE {x y:Nat×Obj} {r l:Blks} (h:Pick r l):Pick (x::y::r) (x::y::l):=qC (qC h)
theorem qF {x y z t:Nat×Obj} {r l:Blks} (h:Pick r l):Pick (x::y::z::t::r) (x::y::z::t::l):=qE (qE h)
theorem qG {x y z t a b c e:Nat×Obj} {r l:Blks} (h:Pick r l):Pick (x::y::z::t::a::b::c::e::r) (x::y::z::t::a::b::c::e::l):=qF (qF h)
theorem qT {q r:Regs} {d c:Nat} {v u:Value} (hs:Sub q r) (h:rget q c=none:=by rfl) (h2:rget q d=none:=by rfl):Sub q ((d,v)::(c,u)::r):=qS (qS hs h) h2
theorem qU {q r:Regs} {d c e f:Nat} {v u w x:Value} (hs:Sub q r) (h:rget q e=none:=by rfl) (h2:rget q f=none:=by rfl) (h3:rget q c=none:=by rfl) (h4:rget q d=none:=by rfl):Sub q ((d,v)::(c,u)::(e,w)::(f,x)::r):=qT (qT hs h2 h) h3 h4
theorem qH {x y z:Nat×Obj} {r l:Blks} (h:Pick r (y::z::l)):Pick (x::r) (y::z::x::l):=match x with | (_,_)=>.cons (.there (.there .here)) rfl h
theorem qI {x y z t:Nat×Obj} {r l:Blks} (h:Pick r (y::z::t::l)):Pick (x::r) (y::z::t::x::l):=match x with | (_,_)=>.cons (.there (.there (.there .here))) rfl h
section
variable {α:Type} {a b c d e f g h x:α} {l:List α}
theorem mm0:x∈x::l:=.head _
theorem mm1:x∈a::x::l:=.tail _ mm0
theorem mm2:x∈a::b::x::l:=.tail _ mm1
theorem mm3:x∈a::b::c::x::l:=.tail _ mm2
theorem mm4:x∈a::b::c::d::x::l:=.tail _ mm3
theorem mm5:x∈a::b::c::d::e::x::l:=.tail _ mm4
theorem mm6:x∈a::b::c::d::e::f::x::l:=.tail _ mm5
theorem mm7:x∈a::b::c::d::e::f::g::x::l:=.tail _ mm6
theorem mm8:x∈a::b::c::d::e::f::g::h::x::l:=.tail _ mm7
end
theorem eZ {P:Program} {f:FuncId} {fn:Func} {c:Code} (hf:P.funcs[f]? = some fn) (hb:fn.body=some c:=by rfl) (hname:(fn.name == "runtime.NumGoroutine")=false:=by kernel_rfl):Enters P f:=CP5 hf hname hb
section
variable {ro:Option Nat} {P:Program} {ops:Array Oper} {Q:Exit→Act→World→Prop} {n:Nat} {r:Regs} {ds:List Deferred} {W:World} {chg news:Blks} {rest:List Oper} {d:Nat}
theorem cS {f:FuncId} {fn:Func} {c:Code} {vs:List Value} {R:Ending→World→Prop} (hf:P.funcs[f]? = some fn) (h:RunC P (bodyPost P fn R) fn.ntmps c (args0 0 vs) [] W [] []) (hb:fn.body=some c:=by rfl) (hn:Nat.ble vs.length fn.ntmps=true:=by rfl):Calls P f vs.toArray W R:=Cb1 hf hb hn h
theorem rP {fn:Func} {v v0:Value} (hv:ResVs P r news fn v:=by exact .r1 rfl (.tmp rfl)) (he:v=v0:=by first | rfl | simp):RunE (bodyPost P fn (Pure v0 W)) n .ret r [] W [] news:=Aa9 hv he
theorem rZ {bl:Blks} {fn:Func} {t:Nat} {v:Value} (h:fn.results= #[.tmp t]:=by rfl) (h2:rget r t=some v:=by rfl):ResVs P r bl fn v:=.r1 h (.tmp h2)
theorem vQ {o:Oper} {v:Value} (h:RunL P ops Q n rest ((d,v)::r) ds W chg news) (hv:pureV r o.op=some v:=by rfl) (hg:guardB ops r o.guard=some true:=by rfl) (hd:o.dst=some d:=by rfl) (hn:Nat.ble (d + 1) n=true:=by rfl):RunL P ops Q n (o::rest) r ds W chg news:=vp hv hg hd hn h
theorem nQ {o:Oper} (h:RunL P ops Q n rest ((d,undef)::r) ds W chg news) (hg:guardB ops r o.guard=some false:=by rfl) (hd:o.dst=some d:=by rfl) (hn:Nat.ble (d + 1) n=true:=by rfl):RunL P ops Q n (o::rest) r ds W chg news:=DI3 hg hd hn h
theorem vR {o:Oper} {v:Value} (h:RunLR ro P ops Q n rest ((d,v)::r) ds W chg news) (hv:Val P r W chg news o v:=by exact Go.Eng.Aa8 rfl) (hg:guardB ops r o.guard=some true:=by rfl) (hd:o.dst=some d:=by rfl) (hn:Nat.ble (d + 1) n=true:=by rfl) (hnd:notDefer o=true:=by rfl):RunLR ro P ops Q n (o::rest) r ds W chg news:=BP7 hv hg hd hn h hnd
theorem lA {o:Oper} {v:Value} {q:Prop} (k:q) (hv:Val P r W chg news o v:=by exact Go.Eng.Val.add rfl rfl (IntWalk.i64_in _ ⟨by omega,by omega⟩)) (hg:guardB ops r o.guard=some true:=by rfl) (hd:o.dst=some d:=by rfl) (hn:Nat.ble (d + 1) n=true:=by rfl)
  (h:q→RunL P ops Q n rest ((d,v)::r) ds W chg news:=by intro k;(repeat first | refine Go.Eng.vp rfl rfl rfl rfl ?_ | refine Go.Eng.RunL.nil ?_ | refine Go.Eng.RunE.next ?_ | refine Go.Eng.RunC.seq ?_ | refine Go.Eng.RunC.region ?_ | refine Go.Eng.RunC.skip ?_ | refine Go.Eng.RunC.block ?_ | refine Go.Eng.Ac4 ?_);exact k) :
  RunL P ops Q n (o::rest) r ds W chg news:=lv hv k hg hd hn h
theorem sQ {x y:Operand} {T T0 ty:TypeId} {pos:String} {after:Array Edge} {gd:Option (Nat×Bool)} {b o sz:Nat} {g:Bool} {cs cs':List Value} {v:Value} {news':Blks} (hu:Upd news b (.cells cs.toArray T0 (0,0)) (.cells cs'.toArray T0 (0,0)) news')
  (h:RunL P ops Q n rest r ds W chg news') (hx:rev r x=some (.pointer (some ⟨b,o,none⟩)):=by rfl) (hy:rev r y=some v:=by rfl) (hT:tyB P T=some (g,sz):=by exact Go.Eng.Tyc.h) (hs:Nat.beq (cellsL v).length sz=true:=by rfl) (hp:paste cs o (cellsL v)=some cs':=by rfl) (hg:guardB ops r gd=some true:=by rfl) :
  RunL P ops Q n ({ dst:=none,op:=.store T x y,type:=ty,pos,after,guard:=gd }::rest) r ds W chg news:=Cl3 (Sto.store hx hy hu hT hs hp) hg rfl h
end
abbrev _root_.Go.La:=@Nat.le_of_ble_eq_true
abbrev _root_.Go.Lb:=@Nat.zero_le
abbrev _root_.Go.Lc:=@Nat.lt_or_ge
abbrev _root_.Go.Ld:=@RunE.ret
abbrev _root_.Go.Lf:=@Nat.lt_trichotomy
abbrev _root_.Go.Lg:=@Nat.and_le_right
abbrev _root_.Go.Lh:=@Nat.shiftRight_le
abbrev _root_.Go.Li:=@Nat.two_pow_pos
abbrev _root_.Go.Lj:=@Nat.or_lt_two_pow
abbrev _root_.Go.Lk:=@Nat.pow_le_pow_right
abbrev _root_.Go.Ll:=@Nat.pow_lt_pow_right
abbrev _root_.Go.Lm:=@New.box
abbrev _root_.Go.Lo:=@Val.fieldAddr
abbrev _root_.Go.Lp:=@New.alloc
abbrev _root_.Go.Lq:=@IntWalk.i64_in
abbrev _root_.Go.Lr:=@Val.build
abbrev _root_.Go.Ls:=@RunC.exit
abbrev _root_.Go.Lt:=@Sto.store
abbrev _root_.Go.Lu:=@New.buildSlice
abbrev _root_.Go.Lv:=@Sl.one
abbrev _root_.Go.Lx:=@RunC.seq
abbrev _root_.Go.Ly:=@RunC.cond
abbrev _root_.Go.Lz:=@Val.makeInterface
abbrev _root_.Go.Ka:=@Val.mul
abbrev _root_.Go.Kb:=@Val.add
abbrev _root_.Go.Kc:=@RunC.scope
abbrev _root_.Go.Kd:=@RunC.skip
abbrev _root_.Go.Ke:=@RunE.next
abbrev _root_.Go.Kf:=@RunL.nil
abbrev _root_.Go.Kg:=@Sub.cons
abbrev _root_.Go.Kh:=@RunL.append
abbrev _root_.Go.Ki:=@RunCR.seq
abbrev _root_.Go.Kj:=@RunCR.region
abbrev _root_.Go.Kk:=@RunLR.nil
abbrev _root_.Go.Kl:=@RunER.next
abbrev _root_.Go.Km:=@RunCR.block
abbrev _root_.Go.Kn:=@RunCR.cond
abbrev _root_.Go.Ko:=@RunCR.skip
abbrev _root_.Go.Kp:=@RunCR.ret
abbrev _root_.Go.Kq:=@RunCR.exit
abbrev _root_.Go.Kr:=@RunC.block
abbrev _root_.Go.Ks:=@RunC.ret
abbrev _root_.Go.Kt:=@Nat.le_trans
abbrev _root_.Go.Ku:=@Val.and
abbrev _root_.Go.Kv:=@RunC.region
abbrev _root_.Go.Kw:=@RunI.append
abbrev _root_.Go.Kx:=@Nat.lt_of_le_of_lt
abbrev _root_.Go.Ky:=@Nat.lt_of_lt_of_le
abbrev _root_.Go.Kz:=@Nat.eq_zero_or_pos
abbrev _root_.Go.Ja:=@RunB.one
end Go.Eng
abbrev Go.Value.I (n:Int):Go.Value:=.int .i64 n
abbrev Go.OA:=Option Go.Addr
abbrev Go.LV:=List Go.Value
namespace Go.Eng
open Go Go.RowKit
def entsK {K:Type} (kv:K→Value):Nat→List (K×Value)→List MapEntry
 | _,[]=>[]
 | i,x::l=>{ key:=kv x.1,val:=x.2,born:=i }::entsK kv (i + 1) l
def mapK {K:Type} (kv:K→Value) (l:List (K×Value)):Obj:=.map (entsK kv 0 l).toArray l.length
def kIdx {K:Type} [DecidableEq K]:List (K×Value)→K→Option (Nat×Value)
 | [],_=>none
 | x::l,a=>if x.1=a then some (0,x.2) else (kIdx l a).map fun p=>(p.1 + 1,p.2)
def kFind {K:Type} [DecidableEq K] (l:List (K×Value)) (a:K):Option Value:=(kIdx l a).map (·.2)
def kSet {K:Type} [DecidableEq K]:List (K×Value)→K→Value→List (K×Value)
 | [],a,v=>[(a,v)]
 | x::l,a,v=>if x.1=a then (a,v)::l else x::kSet l a v
structure KeyOk {K:Type} [DecidableEq K] (P:Program) (T k E:TypeId) (kv:K→Value) (ok:K→Prop):Prop where
 und:P.underlying T=some (.map k E)
 desc:∃ d,P.underlying k=some d∧∀ a b,Instr.sameNow d (kv a) (kv b)=none
 check:∀ (e:Bool) (a:K) (w:World),ok a→(Instr.checkKey e 10000 k (kv a)).run P w = .ok () w
 same:∀ (a b:K) (w:World),ok a→ok b→(Op.equal k (kv a) (kv b)).run P w = .ok (decide (a=b)) w
 bits:∀ a:K,Instr.sameBits 10000 (kv a) (kv a)=true
section
variable {K:Type} [DecidableEq K] {kv:K→Value} {ok:K→Prop}
theorem BL7:∀ (l:List (K×Value)) (i:Nat),(entsK kv i l).length=l.length
 | [],_=>rfl
 | _::l,i=>by simp [entsK,BL7 l (i + 1)]
theorem Bq4:∀ (l:List (K×Value)) (i:Nat) (x:K×Value),entsK kv i (l++[x])=entsK kv i l++[{ key:=kv x.1,val:=x.2,born:=i + l.length }]
 | [],i,x=>by simp [entsK]
 | y::l,i,x=>by
   simp only [List.cons_append,entsK,Bq4 l (i + 1) x,List.length_cons];rw [show i + 1 + l.length=i + (l.length + 1) by omega]
theorem Bi0 {e:MapEntry}:∀ (l:List (K×Value)) (i:Nat),e∈entsK kv i l→∃ j,∃ h:j < l.length,e={ key:=kv l[j].1,val:=l[j].2,born:=i + j }
 | [],i,h=>by cases h
 | x::l,i,h=>by
   rcases List.mem_cons.1 h with rfl | h
   · exact ⟨0,by simp,rfl⟩
   · obtain ⟨j,hj,rfl⟩:=Bi0 l (i + 1) h
     exact ⟨j + 1,by simpa using hj,by simp;omega⟩
theorem By0:∀ (l:List (K×Value)) (i j:Nat) (h:j < l.length),({ key:=kv l[j].1,val:=l[j].2,born:=i + j }:MapEntry)∈entsK kv i l
 | x::l,i,0,_=>by simp [entsK]
 | x::l,i,j + 1,h=>by
   have:=By0 l (i + 1) j (by simpa using h)
   rw [show i + 1 + j=i + (j + 1) by omega] at this;exact List.mem_cons_of_mem _ this
theorem Bh9:∀ (l:List (K×Value)) (i:Nat),((entsK kv i l).map (·.born)).Nodup∧∀ b∈(entsK kv i l).map (·.born),i≤b
 | [],_=>by simp [entsK]
 | x::l,i=>by
   obtain ⟨h1,h2⟩:=Bh9 l (i + 1);simp only [entsK,List.map_cons,List.nodup_cons,List.mem_cons,forall_eq_or_imp];exact ⟨⟨fun h=>by have:=h2 _ h;omega,h1⟩,Nat.le_refl _,fun b hb=>by have:=h2 b hb;omega⟩
theorem BI9 {a:K}:∀ {l:List (K×Value)},kIdx l a=none→∀ v,kSet l a v=l++[(a,v)]
 | [],_,_=>rfl
 | x::l,h,v=>by
   unfold kIdx at h
   split at h
   · cases h
   · rename_i hx
     have h2:kIdx l a=none:=by cases hg:kIdx l a with
      | none=>rfl
      | some p=>rw [hg] at h;cases h
     unfold kSet;rw [if_neg hx,BI9 h2 v];rfl
theorem BI8 {a:K} {p:Nat×Value}:∀ {l:List (K×Value)} (i:Nat),kIdx l a=some p→∀ v,(entsK kv i (kSet l a v))=(entsK kv i l).modify p.1 (fun e=>{ e with key:=kv a,val:=v })∧(kSet l a v).length=l.length∧((entsK kv i l)[p.1]?).map (·.key)=some (kv a)
 | [],_,h,_=>by cases h
 | x::l,i,h,v=>by
   unfold kIdx at h
   split at h
   · rename_i hx
     cases h
     unfold kSet;rw [if_pos hx];refine ⟨rfl,rfl,?_⟩
     simp [entsK,hx]
   · rename_i hx
     cases hg:kIdx l a with
     | none=>rw [hg] at h;cases h
     | some q =>
       rw [hg] at h
       cases h
       obtain ⟨h1,h2,h3⟩:=BI8 (i + 1) hg v;unfold kSet;rw [if_neg hx];refine ⟨?_,by simp [h2],?_⟩
       · simp only [entsK,h1]
         rfl
       · simpa [entsK] using h3
variable {P:Program} {T k E:TypeId}
theorem KeyOk.asking (h:KeyOk P T k E kv ok) {a:K} (ha:ok a) (w:World):∀ (l:List (K×Value)) (i j:Nat),(∀ x∈l,ok x.1)→(Instr.findAsking k (kv a) (entsK kv i l) j).run P w = .ok ((kIdx l a).map fun p=>(j + p.1,p.2)) w
 | [],_,_,_=>rfl
 | x::l,i,j,hl=>by
   unfold entsK Instr.findAsking kIdx;have h1:=h.same a x.1 w ha (hl x (by simp))
   by_cases hx:x.1=a
   · rw [hx] at h1 ⊢
     simp at h1
     simp [h1]
   · have hx2:¬ a=x.1:=fun e=>hx e.symm
     simp only [hx2,decide_false] at h1;simp only [Sem.run_bind,h1,Result.andThen_ok,Bool.false_eq_true,if_false,if_neg hx,KeyOk.asking h ha w l (i + 1) (j + 1) (fun y hy=>hl y (List.mem_cons_of_mem _ hy))]
     cases kIdx l a with
     | none=>rfl
     | some p=>simp;omega
theorem KeyOk.find (h:KeyOk P T k E kv ok) {a:K} (ha:ok a) (l:List (K×Value)) (hl:∀ x∈l,ok x.1) (w:World):(Instr.findKey k (kv a) (entsK kv 0 l)).run P w = .ok (kIdx l a) w:=by
 obtain ⟨d,hu,hd⟩:=h.desc;have h2:=h.asking ha w l 0 0 hl;have e:((kIdx l a).map fun p=>(0 + p.1,p.2))=kIdx l a:=by cases kIdx l a <;> simp
 rw [e] at h2
 cases l with
 | nil=>simp [Instr.findKey,run_underlying hu,entsK,Instr.findNow,kIdx]
 | cons x l =>
   have h3:Instr.findNow d (kv a) (entsK kv 0 (x::l)) 0=none:=by
    unfold entsK Instr.findNow;rw [hd]
   simp [Instr.findKey,run_underlying hu,h3,h2]
theorem AG5 (h:KeyOk P T k E kv ok) {w:World} {b:Nat} {l:List (K×Value)} {a:K} {v:Value} (hb:w.heap[b]? = some (mapK kv l)) (ha:ok a) (hl:∀ x∈l,ok x.1) :
  (Instr.mapUpdate T (.map (some b)) (kv a) v).run P w = .ok () { w with heap:=w.heap.setIfInBounds b (mapK kv (kSet l a v)) }:=by
 have hf:=h.find ha l hl w;unfold mapK at hb
 cases hk:kIdx l a with
 | none =>
   rw [hk] at hf
   have e1:mapK kv (kSet l a v) = .map ((entsK kv 0 l).toArray.push { key:=kv a,val:=v,born:=l.length }) (l.length + 1):=by
    unfold mapK;rw [BI9 hk,Bq4];simp
   rw [e1];simp only [Instr.mapUpdate,Sem.run_bind,run_underlying h.und,Result.andThen_ok,MapKept.run_getObj_map hb,h.check false a w ha,hf,MapKept.run_setObj_map _ hb]
 | some p =>
   rw [hk] at hf;obtain ⟨h1,h2,h3⟩:=BI8 (kv:=kv) 0 hk v
   have e1:mapK kv (kSet l a v) = .map ((entsK kv 0 l).toArray.modify p.1 fun e=>{ e with key:=kv a,val:=v }) l.length:=by
    unfold mapK;rw [h1,h2,List.modify_toArray]
   have h4:(((entsK kv 0 l).toArray[p.1]?).map (·.key)).getD (kv a)=kv a:=by
    rw [List.getElem?_toArray,h3];rfl
   have h5:(Instr.keyThatStays (kv a) (kv a)).run P w = .ok (kv a) w:=by
    unfold Instr.keyThatStays;rw [if_pos (h.bits a)];rfl
   rw [e1];simp only [Instr.mapUpdate,Sem.run_bind,run_underlying h.und,Result.andThen_ok,MapKept.run_getObj_map hb,h.check false a w ha,hf,h4,h5,MapKept.run_setObj_map _ hb]
end
section
variable {K:Type} [DecidableEq K] {kv:K→Value} {ok:K→Prop} {k E:TypeId} {l:List (K×Value)}
variable {P:Program} {ops:Array Oper} {Q:Exit→Act→World→Prop} {n:Nat} {r:Regs} {ds:List Deferred} {W:World} {chg news:Blks} {rest:List Oper}
variable {d:Nat} {ty:TypeId} {pos:String} {after:Array Edge} {dst:Option Tmp} {gd:Option (Nat×Bool)}
theorem Cb9 {x i:Operand} {T:TypeId} {b:Nat} {a:K} {z:Value} (hT:KeyOk P T k E kv ok) (hx:rev r x=some (.map (some b))) (hi:rev r i=some (kv a)) (hb:∀ w,Mem W chg news w→w.heap[b]? = some (mapK kv l)) (ha:ok a) (hl:∀ x∈l,ok x.1) (hz:zeroV P E=some z) :
  Val P r W chg news { dst,op:=.lookup T x i true,type:=ty,pos,after,guard:=gd } (.tuple #[(kFind l a).getD z,.bool (kFind l a).isSome]) :=
 ⟨fun ac w hag hm=>by
  have hbb:w.heap[b]? = some (.map (entsK kv 0 l).toArray l.length):=hb w hm
  have hzz:(zeroValue E).run P w = .ok z w:=by
   unfold zeroV at hz
   cases hi:P.info? E with
   | none=>simp [hi] at hz
   | some i =>
     simp [hi] at hz
     simp [zeroValue,typeInfo,hi,hz]
  unfold kFind;simp only [execOp,hag.eval hx,hag.eval hi,Instr.lookup,Sem.run_bind,run_underlying hT.und,Result.andThen_ok,MapKept.run_getObj_map hbb,Sem.run_pure,hT.check _ a w ha,hT.find ha l hl w]
  cases h:kIdx l a with
  | none=>simp [hzz]
  | some p=>simp⟩
theorem BP4 {x i y:Operand} {T:TypeId} {b:Nat} {a:K} {v:Value} {chg':Blks} (hT:KeyOk P T k E kv ok) (hx:rev r x=some (.map (some b))) (hi:rev r i=some (kv a)) (hy:rev r y=some v) (ha:ok a) (hl:∀ x∈l,ok x.1) (hu:Upd chg b (mapK kv l) (mapK kv (kSet l a v)) chg') :
  Sto P r W chg news { dst,op:=.mapUpdate T x i y,type:=ty,pos,after,guard:=gd } chg' news :=
 ⟨fun ac w hag hm=>by
  have hb:=(hm.chgd _ _ hu.mem).2;obtain ⟨s1,s2⟩:=Aj7 (o':=mapK kv (kSet l a v)) hb;refine ⟨{ w with heap:=w.heap.setIfInBounds b (mapK kv (kSet l a v)) },by simp [execOp,hag.eval hx,hag.eval hi,hag.eval hy,AG5 hT hb ha hl],hm.upd_chg hu rfl rfl rfl (by simp) (fun k _ hk=>s2 k hk) s1⟩⟩
theorem BP3 {x i y:Operand} {T:TypeId} {b:Nat} {a:K} {v:Value} {news':Blks} (hT:KeyOk P T k E kv ok) (hx:rev r x=some (.map (some b))) (hi:rev r i=some (kv a)) (hy:rev r y=some v) (ha:ok a) (hl:∀ x∈l,ok x.1) (hu:Upd news b (mapK kv l) (mapK kv (kSet l a v)) news') :
  Sto P r W chg news { dst,op:=.insert T x i y,type:=ty,pos,after,guard:=gd } chg news' :=
 ⟨fun ac w hag hm=>by
  have hb:=(hm.newd _ _ hu.mem).2;obtain ⟨s1,s2⟩:=Aj7 (o':=mapK kv (kSet l a v)) hb;refine ⟨{ w with heap:=w.heap.setIfInBounds b (mapK kv (kSet l a v)) },by simp [execOp,hag.eval hx,hag.eval hi,hag.eval hy,AG5 hT hb ha hl],hm.upd_new hu rfl rfl rfl (by simp) (fun k _ hk=>s2 k hk) s1⟩⟩
theorem AY8 {T:TypeId}:New P r W chg news { dst,op:=.makeMap T none,type:=ty,pos,after,guard:=gd } (fun b=>.map (some b)) (mapK kv []) :=
 ⟨fun a w _ _=>by simp [execOp,Instr.makeMap,newObj,Sem.run,mapK,entsK]⟩
theorem BP2 {x:Operand} {T:TypeId} {b:Nat} (hT:KeyOk P T k E kv ok) (hx:rev r x=some (.map (some b))) (hb:∀ w,Mem W chg news w→w.heap[b]? = some (mapK kv l)) :
  Val P r W chg news { dst,op:=.call { callee:=.builtin .len,args:=#[x],argTypes:=#[T] },type:=ty,pos,after,guard:=gd } (.I (l.length:Int)) :=
 ⟨fun a w hag hm=>by
  have hbb:w.heap[b]? = some (.map (entsK kv 0 l).toArray l.length):=hb w hm;rw [BigFrame.execOp_builtin,BigFrame.builtin_len];simp [hag.eval hx,Builtin.len_,run_underlying hT.und,MapKept.run_getObj_map hbb,BL7,goInt]⟩
def itK {K:Type} (m:Nat) (l:List (K×Value)) (x:List Nat):Obj:=.mapIter (some m) l.length x.toArray l.length
theorem AL4 {x:Operand} {T:TypeId} {m:Nat} (hT:KeyOk P T k E kv ok) (hx:rev r x=some (.map (some m))) (hb:∀ w,Mem W chg news w→w.heap[m]? = some (mapK kv l)) :
  New P r W chg news { dst,op:=.range T x,type:=ty,pos,after,guard:=gd } (fun b=>.pointer (some ⟨b,0,none⟩)) (itK m l []) :=
 ⟨fun a w ha hm=>by
  have hb':w.heap[m]? = some (.map (entsK kv 0 l).toArray l.length):=hb w hm;simp [execOp,ha.eval hx,Instr.range,run_underlying hT.und,MapKept.run_getObj_map hb',newObj,Sem.run,itK]⟩
theorem AL2 {it:Operand} {rb m:Nat} {x:List Nat} {news':Nat→Blks} (hx:rev r it=some (.pointer (some ⟨rb,0,none⟩))) (hm0:∀ w,Mem W chg news w→w.heap[m]? = some (mapK kv l)) (hu:∀ i,Upd news rb (itK m l x) (itK m l (x++[i])) (news' i)) (hn:Nat.ble (d + 1) n=true)
  (h1:∀ i (hi:i < l.length),i ∉ x→RunL P ops Q n rest ((d,.tuple #[.bool true,kv l[i].1,l[i].2])::r) ds W chg (news' i))
  (h2:(∀ i,i < l.length→i∈x)→RunL P ops Q n rest ((d,.tuple #[.bool false])::r) ds W chg news) :
  RunL P ops Q n ({ dst:=some d,op:=.next it false,type:=ty,pos,after,guard:=none }::rest) r ds W chg news:=fun a w s =>
 wpList_plain rfl fun K hK=>by
  have hr:w.heap[rb]? = some (.mapIter (some m) l.length x.toArray l.length):=(s.mem.newd _ _ (hu 0).mem).2;have hb:w.heap[m]? = some (.map (entsK kv 0 l).toArray l.length):=hm0 w s.mem;have hev:=s.agree.eval hx
  have hlt:∀ e∈(entsK kv 0 l).toArray.toList,e.born < l.length:=fun e he=>by
   obtain ⟨j,hj,rfl⟩:=Bi0 l 0 (by simpa using he);simpa using hj
  unfold Oper.wp
  rcases run_next_at (P:=P) w ty rb m l.length l.length x.toArray (entsK kv 0 l).toArray l.length hr hb hlt (Nat.le_refl _) with ⟨h0,hrun⟩ | ⟨e,he,w1,hw1,hrun⟩
  · simp [execOp,hev,hrun]
    refine hK _ _ (h2 (fun i hi=>?_) _ _ (s.put (La hn) _))
    by_cases hc:i∈x
    · exact hc
    · exfalso
      have hin:({ key:=kv l[i].1,val:=l[i].2,born:=0 + i }:MapEntry)∈leftOf (entsK kv 0 l).toArray x.toArray:=by
       unfold leftOf;simp only [Array.mem_filter,List.mem_toArray];exact ⟨By0 l 0 i hi,by simpa using hc⟩
      have:=Array.size_pos_of_mem hin
      omega
  · have he2:e∈(entsK kv 0 l)∧e.born ∉ x:=by
     have h3:e∈leftOf (entsK kv 0 l).toArray x.toArray:=by simpa using he
     unfold leftOf at h3;simp only [Array.mem_filter,List.mem_toArray] at h3;exact ⟨h3.1,by simpa using h3.2⟩
    obtain ⟨j,hj,rfl⟩:=Bi0 l 0 he2.1;have hjx:j ∉ x:=by simpa using he2.2
    simp [execOp,hev,hrun]
    refine hK _ _ (h1 j hj hjx _ _ ?_)
    have s2:=s.put (La hn) (.tuple #[.bool true,kv l[j].1,l[j].2]);have hr1:w1.heap[rb]? = some (.mapIter (some m) l.length x.toArray l.length):=by rcases hw1 with rfl | rfl <;> exact hr
    obtain ⟨q1,q2⟩:=Aj7 (o':=itK m l (x++[j])) hr1
    have hmem1:Mem W chg news w1:=by
     rcases hw1 with rfl | rfl
     · exact s.mem
     · exact s.mem.drew
    refine ⟨s2.size,s2.agree,s2.defers,?_⟩
    have e1:ChangeMaps.setBlock w1 rb (.mapIter (some m) l.length (x++[j]).toArray l.length)={ w1 with heap:=w1.heap.setIfInBounds rb (itK m l (x++[j])) }:=by
     simp [ChangeMaps.setBlock,itK]
    rw [e1];exact hmem1.upd_new (hu j) rfl rfl rfl (by simp) (fun k _ hk=>q2 k hk) q1
theorem AL1 {x:Operand} {rb m i:Nat} {xs:List Nat} {v:Value} (hx:rev r x=some (.pointer (some ⟨rb,0,none⟩))) (hr:∀ w,Mem W chg news w→w.heap[rb]? = some (itK m l (xs++[i]))) (hm0:∀ w,Mem W chg news w→w.heap[m]? = some (mapK kv l)) (hi:i < l.length) (hv:Value.tuple #[kv l[i].1,l[i].2]=v) :
  Val P r W chg news { dst,op:=.entry x,type:=ty,pos,after,guard:=gd } v :=
 ⟨fun a w ha hm=>by
  subst hv;have h1:w.heap[rb]? = some (.mapIter (some m) l.length (xs.toArray.push (0 + i)) l.length):=by rw [hr w hm];simp [itK]
  have h2:w.heap[m]? = some (.map (entsK kv 0 l).toArray l.length):=hm0 w hm
  have:=run_entry_at (P:=P) w rb m l.length xs.toArray (entsK kv 0 l).toArray l.length { key:=kv l[i].1,val:=l[i].2,born:=0 + i } h1 h2 (by simpa using By0 l 0 i hi) (by simpa using (Bh9 l 0).1)
  simp [execOp,ha.eval hx,this]⟩
end
def ka (l:List Int):Value:=.agg (l.map (Value.int .i64)).toArray
def mapKB' (P:Program) (T:TypeId):Option (TypeId×TypeId):=match P.underlying T with
 | some (.map k e)=>some (k,e)
 | _=>none
def arrIntB (P:Program) (k:TypeId):Option Nat:=match P.underlying k with
 | some (.array n e)=>if (P.underlying e).any isIntD && ((P.info? e).map (·.size) == some 1) then some n else none
 | _=>none
theorem Ck3:∀ (m:Nat) (l:List Int),((l.map (Value.int .i64)).zip (l.map (Value.int .i64))).all (fun p=>Instr.sameBits (m + 1) p.1 p.2)=true
 | _,[]=>rfl
 | m,x::l=>by
   simp only [List.map_cons,List.zip_cons_cons,List.all_cons,Bool.and_eq_true];exact ⟨by simp [Instr.sameBits],Ck3 m l⟩
theorem Dw9 (l:List Int):Instr.sameBits 10000 (ka l) (ka l)=true:=by
 have h:=Ck3 9998 l;rw [show (10000:Nat)=9999 + 1 from rfl];unfold ka Instr.sameBits;simpa using h
theorem KeyOk.arr {P:Program} {T k E:TypeId} {n:Nat} (hm:mapKB' P T=some (k,E)) (ha:arrIntB P k=some n) (hagg:aggB P k=true)
  (heq:∀ a b:List Int,a.length=n→b.length=n→eqF P 8 k (a.map (Value.int .i64)) (b.map (Value.int .i64))=some (decide (a=b))):KeyOk P T k E ka (fun l=>l.length=n):=by
 have hu:P.underlying T=some (.map k E):=by
  unfold mapKB' at hm
  split at hm
  · rename_i hu;cases hm;exact hu
  · cases hm
 obtain ⟨e,q,h1,h2,h3⟩:∃ e q,P.underlying k=some (.array n e)∧P.underlying e=some (.int q)∧∃ i,P.info? e=some i∧i.size=1:=by
  unfold arrIntB at ha
  split at ha
  · rename_i m e hk
    split at ha
    · rename_i hc
      cases ha
      simp only [Bool.and_eq_true,beq_iff_eq] at hc;obtain ⟨q,hq⟩:=AV5 hc.1
      cases hi:P.info? e with
      | none=>rw [hi] at hc;exact absurd hc.2 (by simp)
      | some i=>rw [hi] at hc;exact ⟨e,q,hk,hq,i,hi,by simpa using hc.2⟩
    · cases ha
  · cases ha
 obtain ⟨i,hi,hs⟩:=h3;refine ⟨hu,⟨_,h1,fun a b=>rfl⟩,fun ee a w hla=>?_,fun a b w hla hlb=>?_,Dw9⟩
 · have hx:∀ v,(Instr.checkKey ee 9999 e (.I v)).run P w = .ok () w:=fun v=>by
    rw [show (9999:Nat)=9998 + 1 from rfl];unfold Instr.checkKey;simp [run_underlying h2]
   have hp:∀ j (hj:j < a.length),(part e (a.map (Value.int .i64)).toArray j).run P w = .ok (.I a[j]) w:=fun j hj=>Am9 h2 rfl (by simp [hj])
   have hsz:(sizeOf e).run P w = .ok 1 w:=by simp [sizeOf,typeInfo,hi,hs]
   have loop:∀ (js:List Nat),(∀ j∈js,j < a.length)→(forIn (m:=Sem) js PUnit.unit fun i _=>do
     Instr.checkKey ee 9999 e (← part e (a.map (Value.int .i64)).toArray (i * (← sizeOf e)))
     pure (ForInStep.yield PUnit.unit)).run P w = .ok PUnit.unit w:=by
    intro js
    induction js with
    | nil=>intro _;rfl
    | cons j js ih =>
      intro hjs
      have:=ih (fun x hx=>hjs x (List.mem_cons_of_mem _ hx))
      simp only [List.forIn_cons,Sem.run_bind,hsz,Result.andThen_ok,Nat.mul_one,hp j (hjs j (by simp)),hx,Sem.run_pure,this]
   rw [show (10000:Nat)=9999 + 1 from rfl];unfold Instr.checkKey ka;simp only [Sem.run_bind,run_underlying h1,Result.andThen_ok]
   have:=loop (List.range' 0 n 1) (fun j hj=>by simp [List.mem_range'_1] at hj;omega)
   simp at this
   simp [this]
 · have h4:=BU5 9992 8 k _ _ _ w (heq a b hla hlb)
   rw [(Ax3 hagg _).2,(Ax3 hagg _).2] at h4;exact h4
section
variable {P:Program} {ops:Array Oper} {Q:Exit→Act→World→Prop} {n:Nat} {r:Regs} {ds:List Deferred} {W:World} {chg news:Blks}
def RoundD {X:Type} (n:Nat) (Dl:Nat→X→List Deferred) (W:World) (C:Nat→X→Blks) (N:Nat) (Inv:Nat→X→Prop) (R:Nat→X→Regs) (Nw:Nat→X→Blks) (k:Nat) (a:Act) (w:World):Prop :=
 ∃ k' x,k < k'∧k'≤N∧Inv k' x∧St n (R k' x) (Dl k' x) W (C k' x) (Nw k' x) a w
theorem Bs6 {X:Type} {body:Code} {q:Regs} (Dl:Nat→X→List Deferred) (n0:Blks) (N:Nat) (R:Nat→X→Regs→Regs) (C V T:Nat→X→Blks) (Inv:Nat→X→Prop) (x0:X) (hd:ds=Dl 0 x0) (h0:Inv 0 x0) (hc:chg=C 0 x0) (hs:Sub (R 0 x0 q) r) (hn:Pick (V 0 x0++(n0++T 0 x0)) news)
  (hb:∀ k x,k≤N→Inv k x→RunC P (Exit.then (RoundD n Dl W C N Inv (fun k x=>R k x q) (fun k x=>V k x++(n0++T k x)) k) Q) n body (R k x q) (Dl k x) W (C k x) (V k x++(n0++T k x))):RunC P Q n (.loop body) r ds W chg news:=by
 have key:∀ (m k:Nat) (x:X),N - k < m→k≤N→Inv k x→∀ a w,St n (R k x q) (Dl k x) W (C k x) (V k x++(n0++T k x)) a w→Code.rounds P body Q m a w:=by
  intro m
  induction m with
  | zero=>intro k x h;omega
  | succ m ih =>
    intro k x hk hN hi a w s;rw [rounds_succ];refine wp_mono (hb k x hN hi a w s) ?_
    rintro e a2 w2 hq
    cases e with
    | normal =>
      obtain ⟨k',x',h1,h2,h3,s2⟩:=hq;exact ih k' x' (by omega) h2 h3 a2 w2 s2
    | exit id=>exact hq
    | goto l=>exact hq
    | ret=>exact hq
    | panic c=>exact hq
    | outgrown=>exact hq
 intro a w s;subst hc;subst hd;exact wp_loop_rounds _ (key _ 0 x0 (Nat.lt_succ_self _) (Lb _) h0 a w (s.pick hs hn))
theorem Bk3 {X:Type} {Dl:Nat→X→List Deferred} {C:Nat→X→Blks} {N:Nat} {Inv:Nat→X→Prop} {R:Nat→X→Regs} {Nw:Nat→X→Blks} {k:Nat} (x:X) (hd:ds=Dl (k + 1) x) (hN:k + 1≤N) (hi:Inv (k + 1) x) (hc:chg=C (k + 1) x) (hs:Sub (R (k + 1) x) r) (hn:Pick (Nw (k + 1) x) news) :
  RunE (Exit.then (RoundD n Dl W C N Inv R Nw k) Q) n .normal r ds W chg news:=fun _ _ s=>⟨k + 1,x,Nat.lt_succ_self _,hN,hi,by subst hc;subst hd;exact s.pick hs hn⟩
def AsgB {Y:Type} (n:Nat) (W:World) (R:Y→Regs) (NB:Y→Blks) (A:Blks):Exit→Act→World→Prop
 | .normal,a,w=>∃ y,St n (R y) [] W [] (NB y++A) a w
 | _,_,_=>False
theorem CY0 {Y:Type} {R:Y→Regs} {NB:Y→Blks} {A:Blks} (y:Y) (hs:Sub (R y) r) (hn:Pick (NB y++A) news):RunE (AsgB n W R NB A) n .normal r [] W [] news:=fun _ _ s=>⟨y,s.pick hs hn⟩
theorem Cd4 {α X Y:Type} {g:Operand} {gf N:Nat} {ps:List Nat} {lb:Array Value} {encs:α→LV} {eb:α→Blks} {itb:Blks} {mis:Int→Value} {S Sp:List α→Prop} {assign body:Code} {q:Regs}
  (RY:α→Y→Regs→Regs) (NB:α→Y→Blks) (U:X→Blks) (Iv:List α→X→Prop) (Stp:Code→X→Prop) (x0:X) (i0:Iv [] x0) (rst:Blks) (_hs:Sub q r) (hn:Pick (U x0++(itb++rst)) news)
  (hlen:∀ x,(encs x).length=ps.length) (hin:(ps.all fun p=>Nat.ble (p + 1) n)=true)
  (hg:rev r g=some (.func (.func gf) #[] lb)) (he:Enters P gf) (hseq:SeqQ P gf lb encs eb itb mis S Sp (fun _ _=>False) N W)
  (hasg:∀ l D ob pre v x tl,Iv pre x→Sp (pre++[v])→RunCR (some l) P (AsgB n W (fun y=>RY v y q) (NB v) ((l,ob)::(D,dfrO)::(eb v++(U x++tl)))) n assign (putsR ps (encs v) r) [] W [] ((l,ob)::(D,dfrO)::(eb v++(U x++tl))))
  (hbody:∀ l D ob pre v y x tl,Iv pre x→Sp (pre++[v])→pre.length < N→RunCR (some l) P (BodyQ2 W l ob (D,dfrO) U tl (Iv (pre++[v])) Stp (fun _ _=>False)) n body (RY v y q) [] W [] (NB v y++((l,ob)::(D,dfrO)::(eb v++(U x++tl)))))
  (hdone:∀ D xs x,S xs→Iv xs x→RunE Q n .normal r ({ target:=.collected D,args:=#[] }::ds) W [] ((D,dfrO)::(U x++rst)))
  (hstop:∀ D c x,Stp c x→RunC P Q n c r ({ target:=.collected D,args:=#[] }::ds) W [] ((D,dfrO)::(U x++rst))) :
  RunC P Q n (.rangeFunc g ps.toArray assign body) r ds W [] news:=fun a w s=>by
 have hm:=s.mem.pick hn;refine (wpIn_wide (n:=9)).1 ?_
 show Code.wpIn (Fr none) 9 P _ Q a w
 refine wpIn_rangeFunc (fun f _=>?_)
 obtain ⟨rc,hrc⟩:∃ rc:LoopState→Option Code→Obj,rc=recO f a.tmps ps.toArray assign body w.heap.size:=⟨_,rfl⟩;obtain ⟨W1,hW1⟩:∃ W1,(w.alloc dfrO).alloc (rc .ready none)=W1:=⟨_,rfl⟩
 have hm1:Mem W [] ((w.heap.size + 1,rc .ready none)::(w.heap.size,dfrO)::(U x0++(itb++rst))) W1:=by
  have h1:=(hm.alloc dfrO).alloc (rc .ready none);rw [hW1] at h1;simpa using h1
 refine ⟨w.heap.size + 1,[{ target:=.collected w.heap.size,args:=#[] }],W1,{ target:=.fn (.func gf) lb,args:=#[.func (.yield (w.heap.size + 1)) #[] #[]] },W1,gf,#[.func (.yield (w.heap.size + 1)) #[] #[]]++lb,W1,?_,?_,fun _ _=>trivial,?_,fun _=>by decide,?_⟩
 · rw [← hW1,hrc];exact run_enterLoop_outer _ _ _ _ _
 · simp only [resolve,s.agree.eval hg]
   simp [go_sem]
 · simp [invoke,go_sem,he _ _]
 refine (hseq (X:=X×LoopState×Option Code) (w.heap.size + 1) (fun y=>(w.heap.size + 1,rc y.2.1 y.2.2)::(w.heap.size,dfrO)::U y.1) (fun pre y=>Iv pre y.1∧y.2=(.ready,none)) (fun y=>∃ c,Stp c y.1∧y.2=(.done,some c)) (fun _ _=>False) rst W1 (x0,.ready,none) ?_ ⟨i0,rfl⟩ (by simpa using hm1)).mono ?_
 · rintro pre v ⟨x,st⟩ tl w1 ⟨hI,rfl⟩ hsp hlen1 hmem0
   have hmem:Mem W [] ((w.heap.size + 1,rc .ready none)::(w.heap.size,dfrO)::(eb v++(U x++tl))) w1:=hmem0.pick pk7;have hl:w1.heap[w.heap.size + 1]? = some (rc .ready none):=(hmem.newd _ _ (List.mem_cons_self ..)).2;rw [hrc] at hl;have hy:=run_yield (P:=P) (args:=(encs v).toArray) hl (by simp [recO,hlen v]);refine ⟨f,_,_,_,hy,roundIn_of_wpIn trivial ?_⟩
   rw [← hrc] at hl;have hp:=AN3 ps (encs v) a.tmps r (fun p hp=>by rw [s.size];exact La (List.all_eq_true.1 hin p hp)) (fun u v hu=>s.agree u v hu)
   have e:(ps.toArray.zip (encs v).toArray).foldl (fun t (pv:Nat×Value)=>t.setIfInBounds pv.1 pv.2) a.tmps=(ps.zip (encs v)).foldl (fun t (pv:Nat×Value)=>t.setIfInBounds pv.1 pv.2) a.tmps:=by
    rw [← Array.foldl_toList,Array.toList_zip]
   have ha:=hasg (w.heap.size + 1) w.heap.size (rc .ready none) pre v x tl hI hsp { tmps:=(ps.zip (encs v)).foldl (fun t (pv:Nat×Value)=>t.setIfInBounds pv.1 pv.2) a.tmps,defers:=[] } w1 ⟨by rw [hp.2];exact s.size,fun u v hu=>hp.1 u v hu,rfl,hmem⟩;rw [← e] at ha;refine Go.wpIn_mono (Ay3 ha) ?_;intro e1 a2 w2 hq
   cases e1 with
   | normal =>
     obtain ⟨y,s2⟩:=hq;have hmA:Mem W [] ((w.heap.size + 1,rc .ready none)::(NB v y++((w.heap.size,dfrO)::(eb v++(U x++tl))))) w2:=s2.mem.pick pk7;have hl2:w2.heap[w.heap.size + 1]? = some (rc .ready none):=(hmA.newd _ _ (List.mem_cons_self ..)).2;rw [hrc] at hl2;refine ⟨_,run_beginRound hl2 rfl,?_⟩
     have hm2:=hmA.put (rc .busy none);have eb2:(Obj.loop { state:=.busy,pending:=none,fn:=f,tmps:=a.tmps,params:=ps.toArray,assign:=assign,body:=body,defers:=w.heap.size })=rc .busy none:=by rw [hrc];rfl
     have hb:=hbody (w.heap.size + 1) w.heap.size (rc .busy none) pre v y x tl hI hsp hlen1 a2 _ ⟨s2.size,s2.agree,s2.defers,hm2.pick pk7⟩;rw [eb2];refine Go.wpIn_mono (Ay3 hb) ?_
     have fin:∀ (jump:Option Code) (x':X) (w3:World),Mem W [] ((w.heap.size + 1,rc .busy none)::(w.heap.size,dfrO)::(U x'++tl)) w3 →
       (Instr.endRound (w.heap.size + 1) jump).run P w3 = .ok (.bool jump.isNone) (w3.putObj (w.heap.size + 1) (rc (if jump.isNone then .ready else .done) jump)) ∧
       Mem W [] ((w.heap.size + 1,rc (if jump.isNone then .ready else .done) jump)::(w.heap.size,dfrO)::(U x'++tl)) (w3.putObj (w.heap.size + 1) (rc (if jump.isNone then .ready else .done) jump)):=fun jump x' w3 h3=>by
      have hl3:w3.heap[w.heap.size + 1]? = some (rc .busy none):=(h3.newd _ _ (List.mem_cons_self ..)).2;rw [hrc] at hl3;have h4:=run_endRound (P:=P) jump hl3;refine ⟨by rw [h4,hrc];rfl,h3.put _⟩
     rintro e3 a3 w3 hq3
     cases e3 with
     | normal =>
       obtain ⟨x',hx',h3⟩:=hq3;obtain ⟨h4,h5⟩:=fin none x' w3 h3;exact ⟨_,_,h4,(x',.ready,none),h5,.inl ⟨rfl,hx',rfl⟩⟩
     | ret =>
       obtain ⟨x',hx',h3⟩:=hq3;obtain ⟨h4,h5⟩:=fin (some .ret) x' w3 h3;exact ⟨_,_,h4,(x',.done,some .ret),h5,.inr (.inl ⟨rfl,.ret,hx',rfl⟩)⟩
     | exit id =>
       obtain ⟨x',hx',h3⟩:=hq3;obtain ⟨h4,h5⟩:=fin (some (.exit id)) x' w3 h3;exact ⟨_,_,h4,(x',.done,some (.exit id)),h5,.inr (.inl ⟨rfl,.exit id,hx',rfl⟩)⟩
     | goto t=>exact hq3.elim
     | panic c=>exact hq3.2.elim fun _ h=>h.1.elim
     | outgrown=>exact hq3.elim
   | exit id=>exact hq.elim
   | goto l=>exact hq.elim
   | ret=>exact hq.elim
   | panic c=>exact hq.elim
   | outgrown=>exact hq.elim
 · rintro e w2 ⟨⟨x,st⟩,hmem,hcase⟩
   have hdf:∀ {w':World},Mem W [] ((w.heap.size,dfrO)::(U x++rst)) w'→St n r ({ target:=.collected w.heap.size,args:=#[] }::ds) W [] ((w.heap.size,dfrO)::(U x++rst)) { a with defers:=[{ target:=.collected w.heap.size,args:=#[] }]++a.defers } w':=fun h=>⟨s.size,s.agree,by rw [← s.defers];rfl,h⟩
   have hl0:w2.heap[w.heap.size + 1]? = some (rc st.1 st.2):=(hmem.newd _ _ (List.mem_cons_self ..)).2;rw [hrc] at hl0
   rcases hcase with ⟨v,rfl,⟨xs,hS,hI,rfl⟩ | ⟨c,hc,rfl⟩⟩ | ⟨c,rfl,hc⟩ | ⟨k,xs,rfl,hS,hI,rfl⟩
   · exact ⟨none,_,run_endLoop (P:=P) hl0 (by simp),hdone _ xs x hS hI _ _ (hdf (hmem.putNew _))⟩
   · exact ⟨some c,_,run_endLoop (P:=P) hl0 (by simp),(wpIn_wide (n:=9)).2 (hstop _ c x hc _ _ (hdf (hmem.putNew _)))⟩
   · exact hc.elim
   · exact hS.elim
end
section
variable {ro:Option Nat} {P:Program} {Q:Exit→Act→World→Prop} {n:Nat} {r:Regs} {ds:List Deferred} {W:World} {chg news:Blks}
def QT (K:Act→World→Prop) (Q:Exit→Act→World→Prop):Exit→Act→World→Prop
 | .normal,a,w=>K a w
 | e,a,w=>Q e a w
theorem Dv3 {o:Oper} {a:Act} {w:World} {T K K':Act→World→Prop} (h:∀ a w,K a w→K' a w) (hh:o.wpIn (Fr ro) 9 P a w K (QT T Q)):o.wpIn (Fr ro) 9 P a w K' Q :=
 Oper.wpIn_mono (Q:=Q) h ⟨hh.1,by
  have hh:=hh.2
  generalize (o.semAt (Fr ro).round a.eval).run P w=r at *
  cases r with
  | ok x w'=>cases x <;> simp only [Oper.uponIn] at hh ⊢ <;> first
    | exact hh
    | exact ⟨hh.1,CallsIn.mono hh.2 (fun e w'' he=>by cases e <;> exact he)⟩
    | exact ⟨hh.1,RoundIn.mono hh.2 (fun e w'' he=>by cases e <;> exact he)⟩
  | halt x w'=>cases x <;> simp only [Oper.uponIn] at hh ⊢ <;> exact hh⟩
def hasE (o:Oper) (i:Nat):Bool:=o.after.any fun e=>Region.binds .any e && Nat.beq e.on i
def bkL (l1:List Oper):Bool:=(List.range l1.length).all fun i=>match l1[i]? with
 | some o=>o.guard.isNone && o.after.all fun e=>!Region.binds .any e || Nat.blt e.on i
 | none=>false
def cvL (l1:List Oper) (o:Oper):Bool:=(List.range l1.length).all fun i=>hasE o i || (List.range l1.length).any fun j=>Nat.blt i j && (match l1[j]? with
 | some oj=>hasE oj i
 | none=>false)
def ltL (k:Nat) (l2:List Oper):Bool:=l2.all fun o=>o.after.any fun e=>Region.binds .any e && Nat.ble k e.on
def tlL (l1:List Oper):List Oper→Bool
 | []=>true
 | o::l2=>cvL l1 o && ltL l1.length l2
theorem BK1 {o:Oper} {i:Nat} (h:hasE o i=true):∃ e∈o.after,Region.binds .any e=true∧e.on=i:=by
 unfold hasE at h;rw [Array.any_eq_true] at h;obtain ⟨j,hj,h⟩:=h;simp only [Bool.and_eq_true] at h;exact ⟨_,Array.getElem_mem hj,h.1,Nat.eq_of_beq_eq_true h.2⟩
variable {l1 l2:List Oper}
theorem CW1 (hb:bkL l1=true) {i:Nat} {o:Oper} (ho:l1[i]? = some o):o.guard=none∧∀ e∈o.after,Region.binds .any e=true→e.on < i:=by
 unfold bkL at hb;have hi:=(List.getElem?_eq_some_iff.1 ho).1;have h:=List.all_eq_true.1 hb i (List.mem_range.2 hi);rw [ho] at h;simp only [Bool.and_eq_true,Array.all_eq_true] at h;refine ⟨by simpa using h.1,fun e he hbd=>?_⟩
 obtain ⟨j,hj,rfl⟩:=Array.getElem_of_mem he
 have:=h.2 j hj
 rw [hbd] at this;simpa [Nat.blt_eq] using this
abbrev lsF (listed:Array Bool) (m:Nat):Array Bool:=listed++Array.replicate m false
theorem BH2 {listed:Array Bool} {m i:Nat} (h:i < listed.size) (d:Bool):(lsF listed m).getD i d=listed.getD i d:=by
 simp [lsF,Array.getD_eq_getD_getElem?,Array.getElem?_append_left h]
theorem DN6 {listed:Array Bool} {m i:Nat} (h:listed.size≤i):(lsF listed m).getD i false=false:=by
 simp only [lsF,Array.getD_eq_getD_getElem?,Array.getElem?_append_right h,Array.getElem?_replicate]
 split <;> rfl
theorem Cl0 {i:Nat} (h:i < l1.length):((l1++l2).toArray)[i]? = l1.toArray[i]?:=by simp [List.getElem?_append_left h]
theorem DU0 {i:Nat} (h:l1.length≤i):((l1++l2).toArray)[i]? = l2[i - l1.length]?:=by simp [List.getElem?_append_right h]
theorem BU8 (hb:bkL l1=true) (ht:tlL l1 l2=true) {listed:Array Bool} (hs:listed.size=l1.length) (hcl:Closed l1.toArray listed) {i:Nat} (hun:∃ j,j < l1.length∧listed.getD j true=false) (hr:i∈Region.ready .any (l1++l2).toArray (lsF listed l2.length)):i < l1.length∧i∈Region.ready .any l1.toArray listed:=by
 obtain ⟨h1,o,ho,h2⟩:=mem_ready.1 hr
 rcases Lc i l1.length with hi | hi
 · refine ⟨hi,mem_ready.2 ⟨by rw [← h1,BH2 (by omega)],o,by rw [← ho,Cl0 hi],fun e he hbd=>?_⟩⟩
   have hlt:=(CW1 hb (i:=i) (by rw [Cl0 hi] at ho;simpa using ho)).2 e he hbd
   have:=h2 e he hbd
   rwa [BH2 (by omega)] at this
 · exfalso
   rw [DU0 hi] at ho
   match l2,ht,ho with
   | o0::l3,ht,ho =>
     simp only [tlL,Bool.and_eq_true] at ht
     rcases Nat.eq_or_lt_of_le hi with he | hlt
     · subst he
       simp at ho
       subst ho
       have key:∀ d j,l1.length - j≤d→j < l1.length→listed.getD j false=true:=by
        intro d
        induction d with
        | zero=>intro j h h';omega
        | succ d ih =>
          intro j hd hj;have hc:=List.all_eq_true.1 ht.1 j (List.mem_range.2 hj);rw [Bool.or_eq_true,List.any_eq_true] at hc
          rcases hc with hc | ⟨j2,hj2,hc⟩
          · obtain ⟨e,he,hbd,rfl⟩:=BK1 hc
            have:=h2 e he hbd
            rwa [BH2 (by omega)] at this
          · rw [Bool.and_eq_true] at hc
            have hlt2:j < j2:=by simpa [Nat.blt_eq] using hc.1
            have hj2':=List.mem_range.1 hj2;have hc2:=hc.2;rw [List.getElem?_eq_getElem hj2'] at hc2;obtain ⟨e,he,hbd,rfl⟩:=BK1 hc2;exact hcl j2 l1[j2] (by simp [hj2']) (ih j2 (by omega) hj2') e he hbd
       obtain ⟨j,hj,hf⟩:=hun
       have:=key _ j (Nat.le_refl _) hj
       have e1:listed.getD j true=listed.getD j false:=by simp [Array.getD_eq_getD_getElem?,Array.getElem?_eq_getElem (show j < listed.size by omega)]
       rw [e1,this] at hf
       cases hf
     · have hm:o∈l3:=by
        have:=List.mem_of_getElem? (l:=l3) (i:=i - l1.length - 1) (a:=o) (by
         rw [show i - l1.length=(i - l1.length - 1) + 1 by omega] at ho;simpa using ho)
        exact this
       have h3:=List.all_eq_true.1 ht.2 o hm;rw [Array.any_eq_true] at h3;obtain ⟨j,hj,h3⟩:=h3;simp only [Bool.and_eq_true] at h3;have h4:=h2 _ (Array.getElem_mem hj) h3.1;rw [DN6 (by rw [hs];exact La h3.2)] at h4
       cases h4
theorem Bg0:∀ (l:List Bool),l.countP (· == false) ≠ 0→∃ i,i < l.length∧l[i]? = some false∧∀ j,j < i→l[j]? = some true
 | [],h=>absurd rfl h
 | false::l,_=>⟨0,by simp,rfl,fun j h=>by omega⟩
 | true::l,h=>by
   obtain ⟨i,h1,h2,h3⟩:=Bg0 l (by simpa using h)
   exact ⟨i + 1,by simpa using h1,by simpa using h2,fun j hj=>by
    cases j with
    | zero=>rfl
    | succ j=>simpa using h3 j (by omega)⟩
theorem count_set {l:List Bool} {i:Nat} (h:l[i]? = some false):(l.set i true).countP (· == false) + 1=l.countP (· == false):=by
 induction l generalizing i with
 | nil=>simp at h
 | cons b l ih =>
   cases i with
   | zero=>simp at h;subst h;simp
   | succ i =>
     have:=ih (i:=i) (by simpa using h)
     simp only [List.set_cons_succ,List.countP_cons];omega
theorem Cv6 {l:List Bool} (h:l.countP (· == false)=0):l=List.replicate l.length true:=by
 rw [List.eq_replicate_iff];refine ⟨rfl,fun b hb=>?_⟩
 have:=List.countP_eq_zero.1 h b hb
 cases b <;> simp_all
theorem Cl1 (hb:bkL l1=true) (ht:tlL l1 l2=true):∀ (fuel:Nat) (listed:Array Bool) (a:Act) (w:World),listed.size=l1.length→Closed l1.toArray listed→listed.toList.countP (· == false)=fuel →
  wpAnyIn (Fr ro) 9 P .any l1.toArray (QT (wpAnyIn (Fr ro) 9 P .any (l1++l2).toArray Q l2.length (lsF (Array.replicate l1.length true) l2.length)) Q) fuel listed a w →
  wpAnyIn (Fr ro) 9 P .any (l1++l2).toArray Q (fuel + l2.length) (lsF listed l2.length) a w
 | 0,listed,a,w,hs,hcl,hc,h=>by
   have e:listed=Array.replicate l1.length true:=by
    apply Array.toList_inj.1
    rw [Array.toList_replicate,← hs,← Array.length_toList];exact Cv6 hc
   rw [e,Nat.zero_add];exact h.2
 | fuel + 1,listed,a,w,hs,hcl,hc,h=>by
   obtain ⟨i0,h1,h2,h3⟩:=Bg0 listed.toList (by rw [hc];exact Nat.succ_ne_zero _);rw [Array.length_toList] at h1
   have hun:∃ j,j < l1.length∧listed.getD j true=false:=⟨i0,by omega,by
    rw [Array.getElem?_toList] at h2;simp [Array.getD_eq_getD_getElem?,h2]⟩
   rw [show fuel + 1 + l2.length=(fuel + l2.length) + 1 by omega];refine ⟨fun hr=>?_,fun i hi=>?_⟩
   · exfalso
     have hi0:i0 < l1.length:=by omega
     have:i0∈Region.ready .any (l1++l2).toArray (lsF listed l2.length):=mem_ready.2 ⟨by
      rw [BH2 (by omega)];rw [Array.getElem?_toList] at h2;simp [Array.getD_eq_getD_getElem?,h2],l1[i0],by rw [Cl0 hi0];simp [hi0],fun e he hbd=>by
      have hlt:=(CW1 hb (List.getElem?_eq_getElem hi0)).2 e he hbd;rw [BH2 (by omega)]
      have:=h3 e.on hlt
      rw [Array.getElem?_toList] at this;simp [Array.getD_eq_getD_getElem?,this]⟩
     rw [hr] at this
     cases this
   · obtain ⟨hik,hir⟩:=BU8 hb ht hs hcl hun hi
     have h4:=h.2 i hir
     have hgo:(lsF listed l2.length).setIfInBounds i true=lsF (listed.setIfInBounds i true) l2.length:=by
      unfold lsF;rw [Array.setIfInBounds_append];simp [show i < listed.size by omega]
     have hcnt:(listed.setIfInBounds i true).toList.countP (· == false)=fuel:=by
      have hf:=(mem_ready.1 hir).1
      have:listed.toList[i]? = some false:=by
       rw [Array.getElem?_toList,Array.getElem?_eq_getElem (show i < listed.size by omega)];simpa [Array.getD_eq_getD_getElem?,Array.getElem?_eq_getElem (show i < listed.size by omega)] using hf
      have:=count_set this
      rw [Array.toList_setIfInBounds];omega
     have hrec:∀ a' w',wpAnyIn (Fr ro) 9 P .any l1.toArray (QT (wpAnyIn (Fr ro) 9 P .any (l1++l2).toArray Q l2.length (lsF (Array.replicate l1.length true) l2.length)) Q) fuel (listed.setIfInBounds i true) a' w'→wpAnyIn (Fr ro) 9 P .any (l1++l2).toArray Q (fuel + l2.length) ((lsF listed l2.length).setIfInBounds i true) a' w':=fun a' w' h'=>by
      rw [hgo];exact Cl1 hb ht fuel _ a' w' (by simpa using hs) (hcl.step hir) hcnt h'
     unfold wpOpIn at h4 ⊢;rw [Cl0 hik];have ho:l1.toArray[i]? = some l1[i]:=by simp [hik]
     rw [ho] at h4 ⊢;have hg:=(CW1 hb (List.getElem?_eq_getElem hik)).1;have hw:∀ y,Region.wanted l1[i] y=true:=fun y=>by unfold Region.wanted;rw [hg]
     simp only [hw,if_true] at h4 ⊢;exact Dv3 hrec h4
theorem Cd3 {id:Nat} {l:List Oper} {news0:Blks} (k:Nat) (hm:P.follows .mixedOrders=true) (_hp:Pick news0 news) (hb:bkL (l.take k)=true) (ht:tlL (l.take k) (l.drop k)=true)
  (h:RunA P (l.take k).toArray (QT (wpAnyIn (Fr ro) 9 P .any l.toArray Q (l.drop k).length (lsF (Array.replicate (l.take k).length true) (l.drop k).length)) Q) k (fun c=>c=chg) news0 n (l.take k).toArray.size (Array.replicate (l.take k).toArray.size false) r ds W chg news)
  (hnd:noDefers (l.take k).toArray=true:=by rfl) (hlo:∀ a w,Q .outgrown a w→False:=by exact fun _ _ h=>h):RunCR ro P Q n (.region id l.toArray true) r ds W chg news:=fun a _ s =>
 wpIn_region_any hm (by
  have h1:=CW7 (ro:=ro) hnd (Bw3 (Q:=QT (wpAnyIn (Fr ro) 9 P .any l.toArray Q (l.drop k).length (lsF (Array.replicate (l.take k).length true) (l.drop k).length)) Q) (fun a w hq=>hlo a w hq)) _ _ _ _ (Aj1 _ _ _ _ (h a _ s.drew Closed.start));have e:l.take k++l.drop k=l:=List.take_append_drop k l;have h2:=Cl1 (ro:=ro) (P:=P) (Q:=Q) hb ht (l.take k).toArray.size (Array.replicate (l.take k).toArray.size false) a _ (by simp) Closed.start (by rw [Array.toList_replicate,List.countP_replicate];simp) (by rw [e];exact h1);rw [e] at h2
  have e2:(l.take k).toArray.size + (l.drop k).length=l.toArray.size:=by
   simp
   omega
  have e3:lsF (Array.replicate (l.take k).toArray.size false) (l.drop k).length=Array.replicate l.toArray.size false:=by
   rw [← e2];unfold lsF;simp
  rw [e2,e3] at h2;exact h2)
theorem Dn0 {ops:Array Oper} {listed:Array Bool} {fuel:Nat} (h:RunAF ro P ops Q n fuel listed r ds W chg news):RunE (QT (wpAnyIn (Fr ro) 9 P .any ops Q fuel listed) Q) n .normal r ds W chg news:=h
end
section
variable {P:Program} {ops:Array Oper} {Q:Exit→Act→World→Prop} {n:Nat} {r:Regs} {ds:List Deferred} {W:World} {chg news:Blks}
variable {d i:Nat} {ty:TypeId} {pos:String} {after:Array Edge} {K:Act→World→Prop}
theorem CE7 (w:World) (dT sT ty elem g l dCap m sCap:Nat) (q:OA) (cur:LV) (t:TypeId) (cs:LV)
  (hu:P.underlying dT=some (.slice elem)) (hs:(P.info? elem).map (·.size)=some 1) (hg:w.heap[g]? = some (.cells cur.toArray t)) (hn:cs.length=m) (hm:m≤l) (hc:cur.length=l) (hq:q=none→m=0)
  (hsrc:∀ j v,cs[j]? = some v→∃ a,q=some a∧w.cell? (a.add j)=some v) (h1:∀ v∈cs,v.oneCell'=true) :
  (Builtin.copy_ #[dT,sT] ty #[.slice (some ⟨g,0,none⟩) l dCap,.slice q m sCap]).run P w = .ok (goInt m) (w.setRow g (cs++cur.drop m).toArray):=by
 have hst:=run_storeCells_at P g 0 t cs 0 cur.toArray w hg (by simp;omega) h1
 have e1:(cur.toArray.toList.take (0 + 0)++cs++cur.toArray.toList.drop (0 + 0 + cs.length)).toArray=(cs++cur.drop m).toArray:=by
  simp [hn]
 rw [e1] at hst;have hmin:Nat.min m l=m:=Nat.min_eq_left hm
 cases hi:P.info? elem with
 | none=>simp [hi] at hs
 | some i =>
   have hsz:i.size=1:=by simpa [hi] using hs
   cases q with
   | some a =>
     have hl:=run_loadCells_list (P:=P) w a cs (fun j v h=>by obtain ⟨a',h2,h3⟩:=hsrc j v h;cases h2;exact h3);rw [hn] at hl;simp [Builtin.copy_,run_underlying hu,Builtin.lenOf,Builtin.firstCells,sizeOf,typeInfo,hi,hsz,hl,hst,hmin]
   | none =>
     obtain rfl:=hq rfl;have hcs:cs=[]:=List.eq_nil_of_length_eq_zero (by simpa using hn);subst hcs;simp at hst
     simp [Builtin.copy_,run_underlying hu,Builtin.lenOf,Builtin.firstCells,sizeOf,typeInfo,hi,hst]
theorem Cx4 {x y:Operand} {T e T0:TypeId} {g l cap m c:Nat} {q:OA} {cur cs cs':LV} {news':Blks} (ho:ops[i]? = some { dst:=some d,op:=.call { callee:=.builtin .copy,args:=#[x,y],argTypes:=#[T,T] },type:=ty,pos,after,guard:=none }) (hx:rev r x=some (.slice (some ⟨g,0,none⟩) l cap)) (hy:rev r y=some (.slice q m c)) (hT:slB P T=some (e,1)) (hm:m≤l) (hq:q=none→m=0)
  (hu:Upd news g (.cells cur.toArray T0) (.cells cs'.toArray T0) news') (hn:cs.length=m) (hcur:cur.length=l) (hsrc:∀ w,Mem W chg news w→∀ j v,cs[j]? = some v→∃ a,q=some a∧w.cell? (a.add j)=some v) (h1:∀ v∈cs,v.oneCell'=true) (hcs:cs++cur.drop m=cs') (hd:Nat.ble (d + 1) n=true)
  (h:RunK n K ((d,.I (m:Int))::r) ds W chg news'):RunI P ops Q n i K r ds W chg news:=fun ac w st=>by
 subst hcs;have hb:=(st.mem.newd _ _ hu.mem).2
 obtain ⟨hu2,j,hj,hj1⟩:P.underlying T=some (.slice e)∧∃ j,P.info? e=some j∧j.size=1:=by
  unfold slB at hT
  split at hT
  · rename_i e2 hu
    cases hj:P.info? e2 with
    | none=>simp [hj] at hT
    | some j =>
      simp [hj] at hT
      obtain ⟨rfl,hj1⟩:=hT;exact ⟨hu,j,hj,hj1⟩
  · cases hT
 have hrun:=CE7 (P:=P) w T T ty e g l cap m c q cur T0 cs hu2 (by rw [hj];simp [hj1]) hb hn hm hcur hq (hsrc w st.mem) h1;unfold wpOp;simp only [ho,Region.wanted,if_true];refine .inl ?_;unfold Oper.wp;simp [execOp,resolve,invoke,builtin,st.agree.eval hx,st.agree.eval hy,hrun,Result.andThen]
 refine h _ _ ?_;have e2:goInt m = .int .i64 (m:Int):=rfl;rw [e2];have st2:=st.put (La hd) (.int .i64 (m:Int));exact ⟨st2.size,st2.agree,st2.defers,st.mem.upd_new hu rfl rfl rfl (by simp) (fun k _ hk=>setRow_other w g k _ hk) (setRow_heap w g cur.toArray _ T0 _ hb)⟩
theorem BO8 {x y:Operand} {T e:TypeId} {q:OA} {nl cap sz j:Nat} {k:IntKind} {dst:Option Tmp} {gd:Option (Nat×Bool)} (hx:rev r x=some (.slice q nl cap)) (hy:rev r y=some (.int k (j:Int))) (hT:slB P T=some (e,sz)) (h1:j≤cap) (hq:q=none→cap=0) (hp:∀ a,q=some a→a=⟨a.block,a.off,none⟩) :
  Val P r W chg news { dst,op:=.slice T x none (some y) none,type:=ty,pos,after,guard:=gd } (.slice q j cap) :=
 ⟨fun a w ha _=>by
  unfold slB at hT
  split at hT
  · rename_i e2 hu
    cases hj:P.info? e2 with
    | none=>simp [hj] at hT
    | some i =>
      simp [hj] at hT
      obtain ⟨rfl,rfl⟩:=hT;have h4:(j:Int)≤(cap:Int):=by omega
      cases q with
      | none =>
        have h3:=hq rfl;subst h3;have h5:j=0:=by omega
        subst h5;simp [execOp,ha.eval hx,ha.eval hy,Instr.sliceAt,Instr.sureAddr,Instr.slice,Instr.sliceBounds,Instr.sliceBound,asIntOf,run_underlying hu,sizeOf,typeInfo,hj]
      | some ad =>
        have had:=hp ad rfl;rw [had] at hx ⊢
        by_cases h3:cap=0
        · subst h3
          have h5:j=0:=by omega
          subst h5;simp [execOp,ha.eval hx,ha.eval hy,Instr.sliceAt,Instr.sureAddr,Instr.slice,Instr.sliceBounds,Instr.sliceBound,asIntOf,run_underlying hu,sizeOf,typeInfo,hj]
        · simp [execOp,ha.eval hx,ha.eval hy,Instr.sliceAt,Instr.sureAddr,Instr.slice,Instr.sliceBounds,Instr.sliceBound,asIntOf,run_underlying hu,sizeOf,typeInfo,hj,h4,h3,add_plain]
          intro h9;omega
  · cases hT⟩
end
section
variable {P:Program} {ops:Array Oper} {Q:Exit→Act→World→Prop} {n:Nat} {r:Regs} {ds:List Deferred} {W:World} {chg news:Blks} {rest:List Oper} {d:Nat}
def TryB {α β:Type} (mis:Int→Value) (x:Except Int α) (v:β→Value) (nw:β→Blks) (W:World) (e:Ending) (w:World):Prop :=
 match x with
 | .error k=>e = .panicked [{ v:=mis k,recovered:=false }]∧Mem W [] [] w
 | .ok _=>∃ b,e = .returned (v b)∧Mem W [] (nw b) w
theorem AF3 {α β:Type} {o:Oper} {f:FuncId} {args:Array Value} {mis:Int→Value} {x:Except Int α} {v:β→Value} {nw:β→Blks} (hi:IsCall P r o f args) (hg:guardB ops r o.guard=some true) (hd:o.dst=some d) (hn:Nat.ble (d + 1) n=true)
  (hc:∀ w,Mem W chg news w→Calls P f args w (TryB mis x v nw w)) (herr:∀ k,x = .error k→RunE Q n (.panic [{ v:=mis k,recovered:=false }]) r ds W chg news)
  (hok:∀ a,x = .ok a→∀ b,RunL P ops Q n rest ((d,v b)::r) ds W chg (nw b++news)):RunL P ops Q n (o::rest) r ds W chg news :=
 RunL.call hg hd (fun a w s=>hi.runs a w s.agree) hc (fun a w e w' s hR=>by
  unfold TryB at hR
  cases x with
  | ok y =>
    obtain ⟨b,rfl,hm⟩:=hR;have s2:=s.put (La hn) (v b);exact hok y rfl b _ _ ⟨s2.size,s2.agree,s2.defers,s.mem.trans hm⟩
  | error k =>
    obtain ⟨rfl,hm⟩:=hR;exact herr k rfl a w' ⟨s.size,s.agree,s.defers,s.mem.pass hm⟩)
theorem AI7 {α β:Type} {fn:Func} {mis:Int→Value} {x:Except Int α} {v:β→Value} {nw:β→Blks} {k:Int} (he:x = .error k) :
  RunE (bodyPost P fn (TryB mis x v nw W)) n (.panic [{ v:=mis k,recovered:=false }]) r [] W [] news:=fun _ w s=>⟨s.defers,by rw [he];exact ⟨rfl,s.mem.drop⟩⟩
theorem Cx7 {α β:Type} {fn:Func} {mis:Int→Value} {x:Except Int α} {v:β→Value} {nw:β→Blks} {u:Value} {a:α} (b:β) (hv:ResVs P r news fn u) (he:x = .ok a) (hu:u=v b) (hp:Pick (nw b) news) :
  RunE (bodyPost P fn (TryB mis x v nw W)) n .ret r [] W [] news :=
 Ld (chg:=[]) hv (fun _ hm=>by rw [he];exact ⟨b,by rw [hu],hm.pick hp⟩)
theorem Bk9 {X:Type} {id:Nat} {l:List Oper} {news0:Blks} {q:Regs} (k:Nat) (n0:Blks) (R:X→Regs→Regs) (C V T:X→Blks) (Inv:X→Prop) (hm:P.follows .mixedOrders=true) (_hp:Pick news0 news) (_hs:Sub q r) (_hn:Pick n0 news)
  (h:RunA P l.toArray (SegQ Q (MeetP n ds W (fun x=>R x q) C (fun x=>V x++(n0++T x)) Inv)) k (fun c=>c.map (·.1)=chg.map (·.1)) news0 n l.toArray.size (Array.replicate l.toArray.size false) r ds W chg news)
  (h2:∀ x,Inv x→RunE Q n .normal (R x q) ds W (C x) (V x++(n0++T x))):RunC P Q n (.region id l.toArray true) r ds W chg news:=fun a _ s =>
 Code.wp_mono (fun e a w hq=>by
  cases e <;> first
   | (obtain ⟨x,hi,sx⟩:=hq;exact h2 x hi a w sx)
   | exact hq) (wp_region_any hm (Aj1 _ _ _ _ (h a _ s.drew Closed.start)))
end
section
variable {P:Program} {r:Regs} {W:World} {chg news:Blks}
variable {ty:TypeId} {pos:String} {after:Array Edge} {dst:Option Tmp} {gd:Option (Nat×Bool)}
def fieldNB (P:Program) (T:TypeId) (i:Nat):Option (Nat×Nat) :=
 match P.underlying T with
 | some (.struct fs)=>match fs[i]? with
   | some f=>match tyB P f.type with
     | some (true,n)=>some (f.offset,n)
     | _=>none
   | none=>none
 | _=>none
theorem CE6 {w:World} {t:TypeId} {n:Nat} {cs:Array Value} {off:Nat} (hT:tyB P t=some (true,n)):(part t cs off).run P w = .ok (.agg (cs.extract off (off + n))) w:=by
 unfold tyB at hT
 split at hT
 · rename_i i d hi hd
   simp only [Option.some.injEq,Prod.mk.injEq] at hT
   have hagg:(isAgg t).run P w = .ok true w:=by
    unfold isAgg
    cases d <;> simp_all [isAggD,run_underlying hd]
   simp [part,hagg,sizeOf,typeInfo,hi,hT.2]
 · cases hT
theorem AV8 {x:Operand} {T:TypeId} {i off n:Nat} {cs:Array Value} (hx:rev r x=some (.agg cs)) (hf:fieldNB P T i=some (off,n)) :
  Val P r W chg news { dst,op:=.field T x i,type:=ty,pos,after,guard:=gd } (.agg (cs.extract off (off + n))) :=
 ⟨fun a w ha _=>by
  unfold fieldNB at hf
  split at hf
  · rename_i fs hfs
    split at hf
    · rename_i f hfi
      split at hf
      · rename_i n' hd
        obtain ⟨rfl,rfl⟩:=Prod.mk.inj (Option.some.inj hf);have hp:=CE6 (P:=P) (w:=w) (cs:=cs) (off:=f.offset) hd;simp [execOp,ha.eval hx,Instr.field,run_underlying hfs,hfi,asAgg,hp]
      · cases hf
    · cases hf
  · cases hf⟩
end
end Go.Eng
