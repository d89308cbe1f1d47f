/- The engine inside a round of a range over a function: all of its judgements there; ranges whose variables are laid in blocks, ranges in rounds, rounds that break off or return; functions that hold several. No program is in sight. -/
import Derived.Test.YtmkdbdbenfbkhaaGreatDoorY00
import Derived.RangeFuncNested
import Derived.OrdersIn
import Derived.ChangeKeysEq
import Derived.Laws.StructEq
import Derived.Maps.RangeRun
import Derived.Lib.Bytealg
import Derived.Laws.BytesString
import Derived.Laws.Strings
import Derived.Laws.Cells
import Derived.Laws.MakeOwn
import Derived.Lib.Builder
import Derived.Room.AppendFits
import Derived.Laws.CopyRow
import Derived.Lib.Join
import Derived.Lib.ItoaNum
import Derived.Lib.AtoiAll
import Derived.Lib.IndexMore
import Derived.Shelf.Strings.Builder1
import Derived.Shelf.Strings.Builder2
import Derived.Shelf.Strings.OnBuilder
import Derived.Shelf.Small.Strs
import Derived.Shelf.Strings.BuilderF
import Derived.Shelf.Strings.BuilderK
import Derived.Shelf.Strconv.Atoi
import Derived.Shelf.Strconv.Itoa0
import Derived.Shelf.Strconv.Itoa1
import Derived.Shelf.LaysM
import Derived.Shelf.Strconv.Itoa2
import Derived.Shelf.Strconv.Itoa3
import Derived.Shelf.Strconv.AtoiErrFast
import Derived.Shelf.Strconv.ParseIntEmpty
import Derived.Shelf.Strconv.AtoiFail
import Derived.Shelf.Strconv.Clone
import Derived.Shelf.Strconv.SyntaxError
import Derived.Shelf.LaysC
import Derived.Shelf.Strconv.ToError
import Derived.Shelf.Strconv.AtoiErr
import Derived.Shelf.Strconv.ErrVar
import Derived.Shelf.Strconv.Lower
import Derived.Shelf.Strconv.ParseUint10
import Derived.Shelf.Strconv.ParseUint10Empty
import Derived.Shelf.Strconv.ParseUint10Any
import Derived.Shelf.Strconv.ParseInt10
import Derived.Shelf.Strconv.AtoiLong
import Derived.Shelf.Strconv.AtoiInnerAll
import Derived.Shelf.Strconv.RangeError
import Derived.Shelf.Strconv.ToErrorRange
import Derived.Shelf.Strconv.AtoiAll
import Derived.Shelf.Strconv.ErrVarAll
import Derived.Shelf.Strings.Search1
import Derived.Shelf.Strings.Search2
import Derived.Shelf.Strings.Search3
import Derived.Shelf.Strings.Cut
import Derived.Shelf.Strings.Count
import Derived.Shelf.Strings.Shaped
import Derived.Shelf.Strings.Prefix
import Derived.Shelf.Strings.Split
import Derived.Shelf.Unicode.DecodeSlow
import Derived.Shelf.Slices.Turned
import Derived.Test.YtmkdbdbenfbkhaaGreatDoorProg
set_option linter.unusedSimpArgs false
set_option linter.unusedVariables false
set_option linter.unusedSectionVars false
namespace Go.Eng
open Go Go.RowKit

theorem AB1 {F:Fence} {n:Nat} {P:Program} {Q:Exit→Act→World→Prop} {a:Act} {w:World} {c:Code} (h:c.wpIn F n P (Exit.noGoto Q) a w):(Code.scope c).wpIn F n P Q a w:=by
  intro b k cs hro hb hr;have st1:∀ a w k,step P (lone (b.atR a (.code (.scope c)::k)) cs w) = .next (lone (b.atR a (.code c::.inScope c::k)) cs w):=fun a w k=>step_lone_go (by simp [stepG,stepG.exec,Frame.atR])
  have st2:∀ a w k,step P (lone (b.atR a (.inScope c::k)) cs w) = .next (lone (b.atR a k) cs w):=fun a w k=>step_lone_go (by simp [stepG,stepG.exec,Frame.atR])
  have h0:(lone (b.atR a (.code (.scope c)::k)) cs w).fenced P F:=fenced_calm hb hr rfl;obtain ⟨e,a₁,w₁,hq,harr⟩:=h b (.inScope c::k) cs hro hb hr
  cases e with
  | normal=>exact ⟨.normal,a₁,w₁,hq,.head h0 (st1 _ _ _) (StepsIn.trans harr (.one (fenced_calm hb hr rfl) (st2 _ _ _)))⟩
  | exit id =>
    have hx:exitTo id (.inScope c::k)=exitTo id k:=by simp [exitTo]
    exact ⟨.exit id,a₁,w₁,hq,fun k' hk=>.head h0 (st1 _ _ _) (harr.1 k' (by rw [hx];exact hk)),fun hr' hk=>let ⟨k₁,h1,h2⟩:=harr.2 hr' (by rw [hx];exact hk);⟨k₁,h1,.head h0 (st1 _ _ _) h2⟩⟩
  | goto l=>exact hq.elim
  | ret=>exact ⟨_,a₁,w₁,hq,.of_steps (.one h0 (st1 _ _ _)) harr⟩
  | panic ch=>exact ⟨_,a₁,w₁,hq,.of_steps (.one h0 (st1 _ _ _)) harr⟩
  | outgrown=>exact ⟨_,a₁,w₁,hq,.of_steps (.one h0 (st1 _ _ _)) harr⟩

section
variable {ro:Option Nat} {P:Program} {ops:Array Oper} {Q:Exit→Act→World→Prop} {n:Nat} {r:Regs} {ds:List Deferred} {W:World} {chg news:Blks} {rest:List Oper}

/-! ### What holds of a region outside of rounds holds inside -/
def noDefers (ops:Array Oper):Bool:=ops.toList.all notDefer
theorem Cx8 {row:String} {args:Array Value} {w:World} {R:Value→World→Prop} {m:Nat} (h:Rows P row args w R):RowsIn (Fr ro) m P row args w R:=fun c cs _ =>
  let ⟨v,w',hR,s⟩:=h c cs
  ⟨v,w',hR,by
    have e:Machine.fenced P (Fr ro)=Machine.fenced P Fence.wide:=by cases ro <;> rfl
    rw [e];exact stepsIn_wide.2 s⟩
theorem Cq1 {f:FuncId} {args:Array Value} {w:World} {R:Ending→World→Prop} {m:Nat} (h:Calls P f args w R):CallsIn (Fr ro) m P f args w R:=by
  have h2:CallsIn Fence.wide m P f args w R:=callsIn_wide.2 h
  cases ro with
  | none=>exact h2
  | some l=>exact CallsIn.inRound l h2
theorem Cw6 {o:Oper} {a:Act} {K:Act→World→Prop} {x:Result Next} (h:o.upon P a K Q x):o.uponIn (Fr ro) 9 P a K Q x:=by
  cases x with
  | ok nx w' =>
    cases nx <;> simp only [Oper.upon,Oper.uponIn] at h ⊢ <;>
      first
        | exact h
        | exact ⟨fun h=>(by cases h),(Cq1 h).mono (fun e w'' he=>by cases e <;> exact he)⟩
        | exact ⟨fun h=>(by cases h),Cx8 h⟩
  | halt x w'=>cases x <;> simp only [Oper.upon,Oper.uponIn] at h ⊢ <;> exact h
theorem BU5 {o:Oper} {a:Act} {w:World} {K:Act→World→Prop} (hnd:notDefer o=true) (hlo:LetsOut Q→False) (h:o.wp P a w K Q∨(o.asks P a w∧LetsOut Q)):o.wpIn (Fr ro) 9 P a w K Q:=by
  rcases h with h | h
  · refine ⟨fun _ _=>trivial,?_⟩
    rw [Oper.semAt_eq _ _ _ (An7 hnd)];exact Cw6 h
  · exact (hlo h.2).elim
theorem Bw7 (hlo:LetsOut Q→False):∀ (l:List Oper) (a:Act) (w:World),l.all notDefer=true→wpList P ops Q l a w→wpListIn (Fr ro) 9 P ops Q l a w
  | [],_,_,_,h=>h
  | o::l,a,w,hn,h=>by
    simp only [List.all_cons,Bool.and_eq_true] at hn;simp only [wpList,wpListIn] at h ⊢
    split
    · rename_i hw
      rw [if_pos hw] at h;exact BU5 hn.1 hlo (h.imp (Oper.wp_mono (fun a w h=>Bw7 hlo l a w hn.2 h)) id)
    · rename_i hw
      rw [if_neg hw] at h;exact ⟨fun _ _=>trivial,Bw7 hlo l _ _ hn.2 h⟩
theorem CJ8 {i:Nat} {K K':Act→World→Prop} {a:Act} {w:World} (hn:noDefers ops=true) (hlo:LetsOut Q→False) (hK:∀ a w,K a w→K' a w) (h:wpOp P ops Q i K a w):wpOpIn (Fr ro) 9 P ops Q i K' a w:=by
  unfold wpOp at h;unfold wpOpIn
  cases ho:ops[i]? with
  | none=>simp only [ho] at h ⊢;exact hK _ _ h
  | some o =>
    simp only [ho] at h ⊢
    have hnd:notDefer o=true:=List.all_eq_true.1 hn o (by
      obtain ⟨h1,h2⟩:=Array.getElem?_eq_some_iff.1 ho;rw [← h2];exact Array.mem_toList_iff.2 (Array.getElem_mem h1))
    split
    · rename_i hw
      rw [if_pos hw] at h;exact BU5 hnd hlo (h.imp (Oper.wp_mono hK) id)
    · rename_i hw
      rw [if_neg hw] at h;exact ⟨fun _ _=>trivial,hK _ _ h⟩
theorem Cg1 (hn:noDefers ops=true) (hlo:LetsOut Q→False):∀ (fuel:Nat) (listed:Array Bool) (a:Act) (w:World),wpAny P .any ops Q fuel listed a w→wpAnyIn (Fr ro) 9 P .any ops Q fuel listed a w
  | 0,_,_,_,h=>h
  | fuel + 1,_,_,_,h=>⟨h.1,fun i hi=>CJ8 hn hlo (fun a' w' h'=>Cg1 hn hlo fuel _ a' w' h') (h.2 i hi)⟩
theorem Bd0 {Q:Exit→Act→World→Prop} (h:∀ a w,Q .outgrown a w→False):LetsOut Q→False:=fun ⟨a,w,hq⟩=>h a w hq

theorem Ad4 {id:Nat} {l:List Oper} (h:RunL P l.toArray Q n l r ds W chg news) (hnd:l.all notDefer=true:=by rfl) (hlo:∀ a w,Q .outgrown a w→False:=by exact fun _ _ h=>h):RunCR ro P Q n (.region id l.toArray false) r ds W chg news:=fun a w s =>
  wpIn_region_lit (Bw7 (Bd0 hlo) l a w hnd (h a w s))
theorem BO2 {id:Nat} {l:List Oper} {news0:Blks} (k:Nat) (hm:P.follows .mixedOrders=true) (_hp:Pick news0 news) (h:RunA P l.toArray Q k (fun c=>c=chg) news0 n l.toArray.size (Array.replicate l.toArray.size false) r ds W chg news) (hnd:noDefers l.toArray=true:=by rfl) (hlo:∀ a w,Q .outgrown a w→False:=by exact fun _ _ h=>h):RunCR ro P Q n (.region id l.toArray true) r ds W chg news:=fun a _ s =>
  wpIn_region_any hm (Cg1 hnd (Bd0 hlo) _ _ _ _ (Ar0 _ _ _ _ (h a _ s.drew Closed.start)))
theorem RunCR.scope {c:Code} (h:RunCR ro P (Exit.noGoto Q) n c r ds W chg news):RunCR ro P Q n (.scope c) r ds W chg news:=fun a w s=>AB1 (h a w s)
theorem RunCR.label {l:Nat} (h:RunE Q n .normal r ds W chg news):RunCR ro P Q n (.label l) r ds W chg news:=fun a w s=>wpIn_label (h a w s)
theorem Ar2 {c:Code} {q:Regs} {news':Blks} (hs:Sub q r) (hn:Pick news' news) (h:RunCR ro P Q n c q ds W chg news'):RunCR ro P Q n c r ds W chg news:=fun a w s=>h a w (s.pick hs hn)
theorem RunER.rounds {body:Code} {k:Nat} (h:RunCR ro P (Exit.then (Code.roundsIn (Fr ro) 9 P body Q k) Q) n body r ds W chg news):RunE (Exit.then (Code.roundsIn (Fr ro) 9 P body Q (k + 1)) Q) n .normal r ds W chg news:=fun a w s=>h a w s
theorem RunCR.loopK {body:Code} {q:Regs} {n0:Blks} (N:Nat) (R:Nat→Regs→Regs) (C V:Nat→Blks) (Inv:Nat→Prop) (h0:Inv 0) (hc:chg=C 0) (hs:Sub (R 0 q) r) (hn:Pick (V 0++n0) news)
    (hb:∀ k,k≤N→Inv k→RunCR ro P (Exit.then (Round n ds W C N Inv (fun k=>R k q) (fun k=>V k++n0) k) Q) n body (R k q) ds W (C k) (V k++n0)):RunCR ro P Q n (.loop body) r ds W chg news:=by
  have key:∀ (m k:Nat),N - k < m→k≤N→Inv k→∀ a w,St n (R k q) ds W (C k) (V k++n0) a w→Code.roundsIn (Fr ro) 9 P body Q m a w:=by
    intro m
    induction m with
    | zero=>intro k h;omega
    | succ m ih =>
      intro k hk hN hi a w s;rw [roundsIn_succ];refine Go.wpIn_mono (hb k hN hi a w s) ?_
      rintro e a2 w2 hq
      cases e with
      | normal =>
        obtain ⟨k',h1,h2,h3,s2⟩:=hq;exact ih k' (by omega) h2 h3 a2 w2 s2
      | exit id=>exact hq
      | goto l=>exact hq
      | ret=>exact hq
      | panic c=>exact hq
      | outgrown=>exact hq
  intro a w s;subst hc;exact wpIn_loop_rounds _ (key _ 0 (Nat.lt_succ_self _) (Nat.zero_le _) h0 a w (s.pick hs hn))
theorem AS7 {X:Type} {body:Code} {q:Regs} (n0:Blks) (N:Nat) (R:Nat→X→Regs→Regs) (C V T:Nat→X→Blks) (Inv:Nat→X→Prop) (x0:X) (h0:Inv 0 x0) (hc:chg=C 0 x0) (hs:Sub (R 0 x0 q) r) (hn:Pick (V 0 x0++(n0++T 0 x0)) news)
    (hb:∀ k x,k≤N→Inv k x→RunCR ro P (Exit.then (RoundX n ds W C N Inv (fun k x=>R k x q) (fun k x=>V k x++(n0++T k x)) k) Q) n body (R k x q) ds W (C k x) (V k x++(n0++T k x))):RunCR ro P Q n (.loop body) r ds W chg news:=by
  have key:∀ (m k:Nat) (x:X),N - k < m→k≤N→Inv k x→∀ a w,St n (R k x q) ds W (C k x) (V k x++(n0++T k x)) a w→Code.roundsIn (Fr ro) 9 P body Q m a w:=by
    intro m
    induction m with
    | zero=>intro k x h;omega
    | succ m ih =>
      intro k x hk hN hi a w s;rw [roundsIn_succ];refine Go.wpIn_mono (hb k x hN hi a w s) ?_
      rintro e a2 w2 hq
      cases e with
      | normal =>
        obtain ⟨k',x',h1,h2,h3,s2⟩:=hq;exact ih k' x' (by omega) h2 h3 a2 w2 s2
      | exit id=>exact hq
      | goto l=>exact hq
      | ret=>exact hq
      | panic c=>exact hq
      | outgrown=>exact hq
  intro a w s;subst hc;exact wpIn_loop_rounds _ (key _ 0 x0 (Nat.lt_succ_self _) (Nat.zero_le _) h0 a w (s.pick hs hn))
end

/-! ### Ranges -/
section
variable {ro:Option Nat} {P:Program} {ops:Array Oper} {Q:Exit→Act→World→Prop} {n:Nat} {r:Regs} {ds:List Deferred} {W:World} {chg news:Blks} {rest:List Oper}

def putsR:List Nat→List Value→Regs→Regs
  | p::ps,v::vs,r=>putsR ps vs ((p,v)::r)
  | _,_,r=>r
theorem AB5:∀ (ps:List Nat) (vs:List Value) (t:Array Value) (r:Regs),(∀ p∈ps,p < t.size)→(∀ u v,rget r u=some v→t[u]? = some v) →
    (∀ u v,rget (putsR ps vs r) u=some v→((ps.zip vs).foldl (fun t (pv:Nat×Value)=>t.setIfInBounds pv.1 pv.2) t)[u]? = some v)∧((ps.zip vs).foldl (fun t (pv:Nat×Value)=>t.setIfInBounds pv.1 pv.2) t).size=t.size
  | [],vs,t,r,_,h=>by simpa [putsR] using h
  | p::ps,[],t,r,_,h=>by simpa [putsR] using h
  | p::ps,v::vs,t,r,hp,h=>by
    have h1:=AB5 ps vs (t.setIfInBounds p v) ((p,v)::r) (fun q hq=>by rw [Array.size_setIfInBounds];exact hp q (by simp [hq])) (fun u x hu=>by
      have ha:Agree { tmps:=t,defers:=[] } r:=h
      have:=ha.put (d:=p) (v:=v) (hp p (by simp)) u x hu
      simpa [Act.put] using this)
    simpa [putsR] using h1
structure InR (l:Nat) (W:World) (nm:List Nat):Prop where
  rec':∃ x,W.heap[l]? = some (.loop x)
  notin:l ∉ nm
def AsgQ {Y:Type} (n:Nat) (W:World) (V:Blks) (R:Y→Regs) (NB:Y→Blks):Exit→Act→World→Prop
  | .normal,a,w=>∃ y,St n (R y) [] W V (NB y) a w
  | _,_,_=>False
def BodyX (W:World) (nv nb:List Nat) (V:Blks) (Stp:Code→Blks→Prop):Exit→Act→World→Prop
  | .normal,_,w=>∃ B,B.map (·.1)=nb∧Mem W (V++B) [] w
  | .ret,_,w=>∃ V' B,V'.map (·.1)=nv∧B.map (·.1)=nb∧Stp .ret V'∧Mem W (V'++B) [] w
  | .exit id,_,w=>∃ V' B,V'.map (·.1)=nv∧B.map (·.1)=nb∧Stp (.exit id) V'∧Mem W (V'++B) [] w
  | _,_,_=>False
def BodyI (I:Prop) (Q:Exit→Act→World→Prop):Exit→Act→World→Prop
  | .normal,a,w=>I∧Q .normal a w
  | e,a,w=>Q e a w
theorem Mem.roundN {w w':World} {V V' n0 B:Blks} (h:Mem W chg (V++n0) w) (h':Mem w (V'++B) [] w') (hm:V'.map (·.1)=V.map (·.1)) (hB:∀ b∈B.map (·.1),W.heap.size≤b∧∀ o,(b,o) ∉ chg++(V++n0)):Mem W chg (V'++n0) w':=by
  have hV:∀ b,(∃ o,(b,o)∈V') ↔ ∃ o,(b,o)∈V:=fun b=>by rw [← Ad9,← Ad9,hm]
  have hge:∀ b o,(b,o)∈V'→W.heap.size≤b:=fun b o hb=>by
    obtain ⟨o2,h2⟩:=(hV b).1 ⟨o,hb⟩;exact (h.newd b o2 (List.mem_append.2 (.inl h2))).1
  have hnd:=h.once;have hout:∀ b o,(b,o)∈B→W.heap.size≤b∧∀ o,(b,o) ∉ chg++(V++n0):=fun b o hb=>hB b (Ad9.2 ⟨o,hb⟩)
  refine ⟨h'.os.trans h.os,h'.tape.trans h.tape,h'.output.trans h.output,Nat.le_trans h.size h'.size,fun k hk hc=>?_,fun b o hb=>?_,fun b o hb=>?_,?_⟩
  · rw [h'.old k (Nat.lt_of_lt_of_le hk h.size) (fun o ho=>by
      rcases List.mem_append.1 ho with ho | ho
      · have:=hge k o ho;omega
      · have:=(hout k o ho).1;omega)]
    exact h.old k hk hc
  · have h1:=h.chgd b o hb
    refine ⟨h1.1,?_⟩
    rw [h'.old b (h.lt_new (List.mem_append.2 (.inl hb))) (fun o2 ho=>?_)]
    · exact h1.2
    · rcases List.mem_append.1 ho with ho | ho
      · have:=hge b o2 ho;omega
      · exact (hout b o2 ho).2 o (List.mem_append.2 (.inl hb))
  · rcases List.mem_append.1 hb with hb | hb
    · exact ⟨hge b o hb,h'.at (by simp [hb])⟩
    · have h1:=h.newd b o (List.mem_append.2 (.inr hb))
      refine ⟨h1.1,?_⟩
      rw [h'.old b (h.lt_new (List.mem_append.2 (.inr (List.mem_append.2 (.inr hb))))) (fun o2 ho=>?_)]
      · exact h1.2
      · rcases List.mem_append.1 ho with ho | ho
        · obtain ⟨o3,h3⟩:=(hV b).1 ⟨o2,ho⟩
          rw [List.map_append,List.map_append,List.nodup_append] at hnd;have h4:=(List.nodup_append.1 hnd.2.1).2.2 b (Ad9.2 ⟨o3,h3⟩) b (Ad9.2 ⟨o,hb⟩);exact h4 rfl
        · exact (hout b o2 ho).2 o (List.mem_append.2 (.inr (List.mem_append.2 (.inr hb))))
  · have e:(chg++(V'++n0)).map (·.1)=(chg++(V++n0)).map (·.1):=by simp [List.map_append,hm]
    rw [e];exact hnd
structure Held (n B:Nat) (r:Regs) (NB:Blks) (a:Act) (w:World):Prop where
  size:a.tmps.size=n
  agree:Agree a r
  defers:a.defers=[]
  held:∀ b o,(b,o)∈NB→B≤b∧w.heap[b]? = some o
  once:(NB.map (·.1)).Nodup

structure RangeOk {α Y:Type} (P:Program) (n N:Nat) (r:Regs) (W:World) (chg n0:Blks) (ps:List Nat) (assign body:Code) (enc:α→List Value) (V:List α→Blks) (RY:α→Y→Regs) (NB:α→Y→Blks) (Stp:Code→List α→Blks→Prop) (Iv:List α→Prop):Prop where
  iv0:Iv []
  names:∀ pre,(V pre).map (·.1)=(V []).map (·.1)
  cellsN:∀ x y b o,(b,o)∈NB x y→o.isCells=true
  lens:∀ x,(enc x).length=ps.length
  inps:∀ p∈ps,p < n
  asg:∀ l pre x W1,Mem W chg (V pre++n0) W1→RunCR (some l) P (AsgQ n W1 (V pre) (RY x) (NB x)) n assign (putsR ps (enc x) r) [] W1 (V pre) []
  body:∀ l pre x y W1,pre.length < N→Iv pre→Mem W chg (V pre++n0) W1→InR l W1 ((V pre++NB x y).map (·.1))→(∀ b,(∃ o,(b,o)∈chg++n0)∨b < W.heap.size→b ∉ (V pre++NB x y).map (·.1))→RunCR (some l) P (BodyI (Iv (pre++[x])) (BodyX W1 ((V []).map (·.1)) ((NB x y).map (·.1)) (V (pre++[x])) (fun c V'=>Stp c (pre++[x]) V'))) n body (RY x y) [] W1 (V pre++NB x y) []

variable {α Y:Type} {N:Nat} {n0:Blks} {ps:List Nat} {assign body:Code} {enc:α→List Value} {V:List α→Blks} {RY:α→Y→Regs} {NB:α→Y→Blks} {Stp:Code→List α→Blks→Prop} {Iv:List α→Prop}

theorem RangeOk.lt (H:RangeOk P n N r W chg n0 ps assign body enc V RY NB Stp Iv) {w:World} (s0:Mem W chg (V []++n0) w):∀ pre b o,(b,o)∈chg++(V pre++n0)→b < w.heap.size:=fun pre b o hb=>by
  rcases List.mem_append.1 hb with hb | hb
  · exact s0.lt_new (List.mem_append.2 (.inl hb))
  · rcases List.mem_append.1 hb with hb | hb
    · have:b∈(V pre).map (·.1):=Ad9.2 ⟨o,hb⟩
      rw [H.names pre] at this;obtain ⟨o2,h2⟩:=Ad9.1 this;exact s0.lt_new (List.mem_append.2 (.inr (List.mem_append.2 (.inl h2))))
    · exact s0.lt_new (List.mem_append.2 (.inr (List.mem_append.2 (.inr hb))))
def RI (W:World) (chg n0:Blks) (V:List α→Blks) (B:Nat) (pre:List α) (W':World):Prop:=Mem W chg (V pre++n0) W'∧B≤W'.heap.size
def RIx (W:World) (chg n0:Blks) (nv:List Nat) (Stp:Code→List α→Blks→Prop) (B:Nat) (c:Code) (pre:List α) (W':World):Prop:=∃ V',V'.map (·.1)=nv∧Stp c pre V'∧Mem W chg (V'++n0) W'∧B≤W'.heap.size
def RJ (W:World) (chg n0:Blks) (V:List α→Blks) (Iv:List α→Prop) (B:Nat) (pre:List α) (W':World):Prop:=RI W chg n0 V B pre W'∧Iv pre
theorem RangeOk.own (H:RangeOk P n N r W chg n0 ps assign body enc V RY NB Stp Iv) {w:World} (s0:Mem W chg (V []++n0) w):OwnFrom w.heap.size (RI W chg n0 V w.heap.size):=fun pre _ _ _ hI hgr hr =>
  ⟨hI.1.turned hgr (fun k e=>(hr k e).1) (H.lt s0 pre) s0.size,Nat.le_trans hI.2 hgr.size⟩
theorem Bd2 {w w':World} {B:Nat} {V:Blks} (h:Mem w V [] w') (hv:∀ b o,(b,o)∈V→b < B∨∃ o',w.heap[b]? = some o'∧o'.isCells=true):KeepsFrom B w w' :=
  ⟨h.size,fun k o hB hk ho=>by
    rw [h.old k (Array.getElem?_eq_some_iff.1 hk).1 (fun o2 ho2=>?_)]
    · exact hk
    · rcases hv k o2 ho2 with h1 | ⟨o3,h3,h4⟩
      · omega
      · rw [hk] at h3;cases h3;rw [ho] at h4;cases h4⟩
theorem RangeOk.round (H:RangeOk P n N r W chg n0 ps assign body enc V RY NB Stp Iv) {a:Act} {w:World} (s:St n r ds W chg (V []++n0) a w) (l:Nat) (pre:List α) (x:α) (a':Act) (W1:World) (hl:w.heap.size≤l) (hrec:∃ x,W1.heap[l]? = some (.loop x))
    (hI:RI W chg n0 V w.heap.size pre W1) (hA:∃ y,Held n w.heap.size (RY x y) (NB x y) a' W1) (hlen:pre.length < N) (hiv:Iv pre) :
    body.wpIn ((Fr none).inRound l) 7 P (ownPostG w.heap.size (KpX w.heap.size ((V []).map (·.1))) (RJ W chg n0 V Iv w.heap.size) (RIx W chg n0 ((V []).map (·.1)) Stp w.heap.size) (pre++[x]) W1) a' W1:=by
  obtain ⟨y,hh⟩:=hA;have hlt:∀ b o,(b,o)∈chg++(V pre++n0)→b < w.heap.size:=H.lt s.mem pre;have hVlt:∀ b o,(b,o)∈V pre→b < w.heap.size:=fun b o hb=>hlt b o (List.mem_append.2 (.inr (List.mem_append.2 (.inl hb))))
  have hV':∀ (V':Blks),V'.map (·.1)=(V []).map (·.1)→∀ b o,(b,o)∈V'→b < w.heap.size:=fun V' hv b o hb=>by
    have:b∈V'.map (·.1):=Ad9.2 ⟨o,hb⟩
    rw [hv,← H.names pre] at this;obtain ⟨o2,h2⟩:=Ad9.1 this;exact hVlt b o2 h2
  have hB':∀ (B:Blks),B.map (·.1)=(NB x y).map (·.1)→∀ b o,(b,o)∈B→w.heap.size≤b∧∃ o',W1.heap[b]? = some o'∧o'.isCells=true:=fun B hb b o h=>by
    have:b∈B.map (·.1):=Ad9.2 ⟨o,h⟩
    rw [hb] at this;obtain ⟨o2,h2⟩:=Ad9.1 this;obtain ⟨h3,h4⟩:=hh.held b o2 h2;exact ⟨h3,o2,h4,H.cellsN x y b o2 h2⟩
  have hst:Mem W1 (V pre++NB x y) [] W1:=⟨rfl,rfl,rfl,Nat.le_refl _,fun _ _ _=>rfl,fun b o hb=>by
      rcases List.mem_append.1 hb with hb | hb
      · exact ⟨hI.1.lt_new (List.mem_append.2 (.inr (List.mem_append.2 (.inl hb)))),(hI.1.newd b o (List.mem_append.2 (.inl hb))).2⟩
      · have h1:=(hh.held b o hb).2
        exact ⟨(Array.getElem?_eq_some_iff.1 h1).1,h1⟩,fun _ _ hb=>(by cases hb),by
      have h1:=hI.1.once;rw [List.map_append,List.map_append,List.nodup_append] at h1;rw [List.append_nil,List.map_append,List.nodup_append];refine ⟨(List.nodup_append.1 h1.2.1).1,hh.once,fun b hb c hc e=>?_⟩
      subst e;obtain ⟨o,ho⟩:=Ad9.1 hb;obtain ⟨o2,ho2⟩:=Ad9.1 hc
      have:=hVlt b o ho
      have:=(hh.held b o2 ho2).1
      omega⟩
  have hInR:InR l W1 ((V pre++NB x y).map (·.1)):=⟨hrec,fun hc=>by
    obtain ⟨o,ho⟩:=Ad9.1 hc
    rcases List.mem_append.1 ho with ho | ho
    · have:=hVlt l o ho;omega
    · obtain ⟨q,hq⟩:=hrec
      have h1:=(hh.held l o ho).2;rw [hq] at h1
      cases h1
      have:=H.cellsN x y l _ ho
      cases this⟩
  have hAp:∀ b,(∃ o,(b,o)∈chg++n0)∨b < W.heap.size→b ∉ (V pre++NB x y).map (·.1):=fun b hb hc=>by
    obtain ⟨o,ho⟩:=Ad9.1 hc;have hnd:=hI.1.once
    rcases List.mem_append.1 ho with ho | ho
    · rcases hb with ⟨o2,hb⟩ | hb
      · rw [List.map_append,List.map_append,List.nodup_append] at hnd
        rcases List.mem_append.1 hb with hb | hb
        · exact hnd.2.2 b (Ad9.2 ⟨o2,hb⟩) b (List.mem_append.2 (.inl (Ad9.2 ⟨o,ho⟩))) rfl
        · exact (List.nodup_append.1 hnd.2.1).2.2 b (Ad9.2 ⟨o,ho⟩) b (Ad9.2 ⟨o2,hb⟩) rfl
      · have:=(hI.1.newd b o (List.mem_append.2 (.inl ho))).1
        omega
    · have h1:=(hh.held b o ho).1
      rcases hb with ⟨o2,hb⟩ | hb
      · have:b < w.heap.size:=by
          rcases List.mem_append.1 hb with hb | hb
          · exact hlt b o2 (List.mem_append.2 (.inl hb))
          · exact hlt b o2 (List.mem_append.2 (.inr (List.mem_append.2 (.inr hb))))
        omega
      · have:=s.mem.size
        omega
  have hr:=H.body l pre x y W1 hlen hiv hI.1 hInR hAp a' W1 ⟨hh.size,hh.agree,hh.defers,hst⟩
  show body.wpIn (Fr (some l)) 7 P _ a' W1
  have hBout:∀ (B:Blks),B.map (·.1)=(NB x y).map (·.1)→∀ b∈B.map (·.1),W.heap.size≤b∧∀ o,(b,o) ∉ chg++(V pre++n0):=fun B hb b hbm=>by
    obtain ⟨o,ho⟩:=Ad9.1 hbm;have h1:=(hB' B hb b o ho).1;exact ⟨Nat.le_trans s.mem.size h1,fun o2 h2=>by have:=hlt b o2 h2;omega⟩
  have hkf:∀ (V' B:Blks) (w2:World),V'.map (·.1)=(V []).map (·.1)→B.map (·.1)=(NB x y).map (·.1)→Mem W1 (V'++B) [] w2→KeepsFrom w.heap.size W1 w2:=fun V' B w2 hv hb hm =>
    Bd2 hm (fun b o ho=>by
      rcases List.mem_append.1 ho with ho | ho
      · exact .inl (hV' V' hv b o ho)
      · exact .inr (hB' B hb b o ho).2)
  refine Go.wpIn_mono (As8 hr) ?_;intro e a2 w2 hq
  cases e with
  | normal =>
    obtain ⟨hiv2,B,hb,hm⟩:=hq;refine ⟨hkf _ B w2 (H.names _) hb hm,fun k hk hne=>hm.old k (Nat.lt_of_lt_of_le hk hI.2) (fun o ho=>?_),⟨hI.1.roundN hm (by rw [H.names,H.names pre]) (hBout B hb),Nat.le_trans hI.2 hm.size⟩,hiv2⟩
    rcases List.mem_append.1 ho with ho | ho
    · exact hne (by rw [← H.names (pre++[x])];exact Ad9.2 ⟨o,ho⟩)
    · have:=(hB' B hb k o ho).1;omega
  | exit id =>
    obtain ⟨V',B,hv,hb,hst2,hm⟩:=hq;exact ⟨hkf V' B w2 hv hb hm,V',hv,hst2,hI.1.roundN hm (by rw [hv,H.names pre]) (hBout B hb),Nat.le_trans hI.2 hm.size⟩
  | ret =>
    obtain ⟨V',B,hv,hb,hst2,hm⟩:=hq;exact ⟨hkf V' B w2 hv hb hm,V',hv,hst2,hI.1.roundN hm (by rw [hv,H.names pre]) (hBout B hb),Nat.le_trans hI.2 hm.size⟩
  | goto l=>exact hq.elim
  | panic c=>exact hq.elim
  | outgrown=>exact hq.elim
theorem Mem.flat {w W1:World} {n1 c1 nw:Blks} (hI:Mem W [] n1 W1) (hm:Mem W1 c1 nw w) (hc:∀ b,b < W.heap.size→b ∉ c1.map (·.1)):Mem W [] [] w :=
  ⟨hm.os.trans hI.os,hm.tape.trans hI.tape,hm.output.trans hI.output,Nat.le_trans hI.size hm.size,fun k hk _=>(hm.old k (Nat.lt_of_lt_of_le hk hI.size) (fun o ho=>hc k hk (Ad9.2 ⟨o,ho⟩))).trans (hI.old k hk (by simp)),fun _ _ h=>(by cases h),fun _ _ h=>(by cases h),by simp⟩

/-! ### Leaving a function that holds loops -/
def markD (D:Nat):Deferred:={ target:=.collected D,args:=#[] }
def markB (D:Nat):Nat×Obj:=(D,.deferred (some []))
theorem Aq6 {fn:Func} {R:Ending→World→Prop} {tl:List Deferred} {t:Array Value} {news2:Blks} (hend:∀ w,Mem W chg news2 w→LeavesInM Fence.wide 9 P fn t R tl .returning w):∀ (Ds:List Nat) (w:World),Mem W chg (Ds.map markB++news2) w→LeavesInM Fence.wide 9 P fn t R (Ds.map markD++tl) .returning w
  | [],w,hm=>hend w hm
  | D::Ds,w,hm=>⟨by simp,.inl ⟨D,_,rfl,run_takeDeferred (hm.newd D _ (List.mem_cons_self ..)).2,Aq6 hend Ds _ (hm.putNew _)⟩⟩
theorem AX8 {fn:Func} {R:Ending→World→Prop} {news2:Blks} {v:Value} {a:Act} (hag:Agree a r) (hv:ResVs P r (chg++news2) fn v) (hR:∀ w,Mem W chg news2 w→R (.returned v) w):∀ w,Mem W chg news2 w→LeavesInM Fence.wide 9 P fn a.tmps R [] .returning w:=fun w hm =>
  ⟨v,hv.run hag (fun _ _ h=>hm.at h),hR w hm⟩
theorem AU3 {fn:Func} {f:FuncId} {T:TypeId} {mis:Int→Value} {R:Ending→World→Prop} {news2:Blks} {v:Value} {b:Nat} {a:Act} (hc:CatchesIn P f T mis) (he:Enters P f) (hag:Agree a r) (hv:ResVs P r (chg++news2) fn v) (hR:∀ w,Mem W chg news2 w→R (.returned v) w) :
    ∀ w,Mem W chg news2 w→LeavesInM Fence.wide 9 P fn a.tmps R [{ target:=.fn (.func f) #[.pointer (some ⟨b,0,none⟩)],args:=#[] }] .returning w:=fun w hm=>by
  refine ⟨by simp,.inr ⟨fun h=>(by cases h),_,_,f,#[.pointer (some ⟨b,0,none⟩)],rfl,by simp [invoke];exact he _ _,fun _ _=>trivial,(hc.calm b w).mono ?_⟩⟩
  rintro e u w' ⟨⟨x,rfl⟩,rfl,hm'⟩
  have hm2:=hm.pass hm';exact ⟨v,hv.run hag (fun _ _ h=>hm2.at h),hR _ hm2⟩
theorem Au8 {fn:Func} {R:Ending→World→Prop} {v:Value} {news2:Blks} (Ds:List Nat) (hp:Pick (Ds.map markB++news2) news) (hv:ResVs P r (chg++news2) fn v) (hR:∀ w,Mem W chg news2 w→R (.returned v) w) :
    RunE (bodyPostM Fence.wide 9 P fn R) n .ret r (Ds.map markD++[]) W chg news:=fun a w s=>by
  show LeavesInM _ _ _ _ _ _ a.defers _ w
  rw [s.defers];exact Aq6 (AX8 s.agree hv hR) Ds w (s.mem.pick hp)
theorem Bh7 {fn:Func} {R:Ending→World→Prop} {v:Value} {news2:Blks} (Ds:List Nat) (hp:Pick (Ds.map markB++news2) news) (hv:ResVs P r (chg++news2) fn v) (hR:∀ w,Mem W chg news2 w→R (.returned v) w) :
    RunE (bodyPostM Fence.wide 9 P fn R) n .normal r (Ds.map markD++[]) W chg news:=fun a w s=>by
  show LeavesInM _ _ _ _ _ _ a.defers _ w
  rw [s.defers];exact Aq6 (AX8 s.agree hv hR) Ds w (s.mem.pick hp)
theorem Ba3 {fn:Func} {f:FuncId} {T:TypeId} {mis:Int→Value} {R:Ending→World→Prop} {v:Value} {b:Nat} {news2:Blks} (Ds:List Nat) (hc:CatchesIn P f T mis) (he:Enters P f) (hp:Pick (Ds.map markB++news2) news) (hv:ResVs P r (chg++news2) fn v) (hR:∀ w,Mem W chg news2 w→R (.returned v) w) :
    RunE (bodyPostM Fence.wide 9 P fn R) n .ret r (Ds.map markD++[{ target:=.fn (.func f) #[.pointer (some ⟨b,0,none⟩)],args:=#[] }]) W chg news:=fun a w s=>by
  show LeavesInM _ _ _ _ _ _ a.defers _ w
  rw [s.defers];exact Aq6 (AU3 hc he s.agree hv hR) Ds w (s.mem.pick hp)
theorem Ba1 {fn:Func} {f:FuncId} {T:TypeId} {mis:Int→Value} {v v0 x:Value} {b:Nat} {k:Int} {news':Blks} (hc:CatchesIn P f T mis) (he:Enters P f) (hu:Upd news b (.cells #[x] T (0,0)) (.cells #[.int .i64 k] T (0,0)) news') (hv:ResVs P r news' fn v) (hv0:v=v0) :
    RunE (bodyPostM Fence.wide 9 P fn (Pure v0 W)) n (.panic [{ v:=mis k,recovered:=false }]) r [{ target:=.fn (.func f) #[.pointer (some ⟨b,0,none⟩)],args:=#[] }] W [] news:=fun a w s=>by
  show LeavesInM _ _ _ _ _ _ a.defers _ w
  rw [s.defers];refine ⟨by simp,.inr ⟨fun h=>(by cases h),_,_,f,#[.pointer (some ⟨b,0,none⟩)],rfl,by simp [invoke];exact he _ _,fun _ _=>trivial,(hc.wild b k x w (s.mem.newd _ _ hu.mem).2).mono ?_⟩⟩
  rintro e u w' ⟨⟨y,rfl⟩,rfl,hm⟩
  have hm2:=s.mem.turn_new hu hm;exact ⟨v,hv.run s.agree (fun _ _ h=>hm2.at (by simpa using h)),by rw [hv0],hm2.drop⟩
theorem Ay8 {v v0:Value} (h:v=v0) {news2:Blks}:∀ w,Mem W [] news2 w→Pure v0 W (.returned v) w:=fun _ hm=>⟨by rw [h],hm.drop⟩
end
end Go.Eng
/- The engine: structs and arrays of numbers and truth values, compared. No program is in sight. -/
namespace Go.Eng
open Go Go.RowKit
def eqFs (P:Program) (g:TypeId→List Value→List Value→Option Bool) (cs es:List Value):List Field→Option Bool
  | []=>some true
  | f::fs=>if f.name = "_" then none else
    match g f.type ((cs.drop f.offset).take (P.cellsOf f.type)) ((es.drop f.offset).take (P.cellsOf f.type)),eqFs P g cs es fs with
    | some a,some b=>some (a && b)
    | _,_=>none
def eqIs (P:Program) (g:TypeId→List Value→List Value→Option Bool) (e:TypeId) (cs es:List Value):List Nat→Option Bool
  | []=>some true
  | i::is=>match g e ((cs.drop (i * P.cellsOf e)).take (P.cellsOf e)) ((es.drop (i * P.cellsOf e)).take (P.cellsOf e)),eqIs P g e cs es is with
    | some a,some b=>some (a && b)
    | _,_=>none
def eqF (P:Program):Nat→TypeId→List Value→List Value→Option Bool
  | 0,_,_,_=>none
  | m + 1,t,cs,es=>match P.underlying t with
    | some (.int _)=>match cs,es with
      | [.int k a],[.int k' b]=>if k=k' then some (decide (a=b)) else none
      | _,_=>none
    | some .bool=>match cs,es with
      | [.bool a],[.bool b]=>some (a == b)
      | _,_=>none
    | some .string=>match cs,es with
      | [.string a],[.string b]=>some (a.toList == b.toList)
      | _,_=>none
    | some (.struct fs)=>if P.stoodInHeld t=false∧cs.length=P.cellsOf t∧es.length=P.cellsOf t then eqFs P (eqF P m) cs es fs.toList else none
    | some (.array n e)=>if n ≠ 0∧cs.length=P.cellsOf t∧es.length=P.cellsOf t then eqIs P (eqF P m) e cs es (List.range n) else none
    | _=>none
def valOf (P:Program) (t:TypeId) (cs:List Value):Value:=match P.underlying t with
  | some (.struct _)=>.agg cs.toArray
  | some (.array _ _)=>.agg cs.toArray
  | _=>cs.headD undef
section
variable {P:Program}
theorem Bw2 {m off:Nat} {t:TypeId} {xs es:List Value} {w:World} {b:Bool} (h:eqF P m t ((xs.drop off).take (P.cellsOf t)) es=some b):(part t xs.toArray off).run P w = .ok (valOf P t ((xs.drop off).take (P.cellsOf t))) w:=by
  cases m with
  | zero=>cases h
  | succ m =>
    unfold eqF at h
    cases hu:P.underlying t with
    | none=>simp [hu] at h
    | some d =>
      rw [hu] at h
      have plain:∀ v,(xs.drop off).take (P.cellsOf t)=[v]→xs[off]? = some v:=fun v hv=>by
        have h1:((xs.drop off).take (P.cellsOf t))[0]? = some v:=by rw [hv];rfl
        rw [List.getElem?_take] at h1
        split at h1
        · simpa using h1
        · cases h1
      have agg:isAggD d=true→(part t xs.toArray off).run P w = .ok (.agg ((xs.drop off).take (P.cellsOf t)).toArray) w:=fun ha=>by
        obtain ⟨i,hi⟩:=info_of_underlying hu;have hc:P.cellsOf t=i.size:=by simp [Program.cellsOf,hi]
        have e:xs.toArray.extract off (off + i.size)=((xs.drop off).take (P.cellsOf t)).toArray:=by
          rw [hc];simp
        cases d <;> simp [isAggD] at ha <;> simp [part,isAgg,run_underlying hu,sizeOf,typeInfo,hi,← e]
      unfold valOf;rw [hu]
      cases d with
      | int k =>
        simp only at h ⊢
        split at h
        · rename_i a _ _ hv
          rw [hv];exact Al1 hu rfl (by simpa using plain _ hv)
        · cases h
      | bool =>
        simp only at h ⊢
        split at h
        · rename_i a _ hv
          rw [hv];exact Al1 hu rfl (by simpa using plain _ hv)
        · cases h
      | string =>
        simp only at h ⊢
        split at h
        · rename_i a _ hv
          rw [hv];exact Al1 hu rfl (by simpa using plain _ hv)
        · cases h
      | struct fs=>exact agg rfl
      | array n e=>exact agg rfl
      | _=>simp at h
theorem BE9 {m off:Nat} {t:TypeId} {xs cs:List Value} {w:World} {b:Bool} (h:eqF P m t cs ((xs.drop off).take (P.cellsOf t))=some b):(part t xs.toArray off).run P w = .ok (valOf P t ((xs.drop off).take (P.cellsOf t))) w:=by
  have h2:∃ b,eqF P m t ((xs.drop off).take (P.cellsOf t)) ((xs.drop off).take (P.cellsOf t))=some b:=by
    have sym : ∀ (m : Nat) (t : TypeId) (cs es : List Value) (b : Bool), eqF P m t cs es = some b → ∃ b, eqF P m t es es = some b := by
      intro m
      induction m with
      | zero=>intro t cs es b h;cases h
      | succ m ih =>
        intro t cs es b h;unfold eqF at h ⊢
        split at h
        · split at h
          · split at h
            · rename_i hk;subst hk;exact ⟨_,by simp;rfl⟩
            · cases h
          · cases h
        · split at h
          · exact ⟨_,by simp;rfl⟩
          · cases h
        · split at h
          · exact ⟨_,by simp;rfl⟩
          · cases h
        · rename_i fs _
          split at h
          · rename_i hc
            rw [if_pos ⟨hc.1,hc.2.2,hc.2.2⟩]
            generalize fs.toList=l at h
            induction l generalizing b with
            | nil=>exact ⟨true,rfl⟩
            | cons f l ihl =>
              unfold eqFs at h ⊢
              split at h
              · cases h
              · rename_i hn
                rw [if_neg hn]
                split at h
                · rename_i a b' h1 h2
                  obtain ⟨u,hu⟩:=ih _ _ _ _ h1;obtain ⟨v,hv⟩:=ihl _ h2;rw [hu,hv];exact ⟨_,rfl⟩
                · cases h
          · cases h
        · rename_i n e _
          split at h
          · rename_i hc
            rw [if_pos ⟨hc.1,hc.2.2,hc.2.2⟩]
            generalize List.range n=l at h
            induction l generalizing b with
            | nil=>exact ⟨true,rfl⟩
            | cons i l ihl =>
              unfold eqIs at h ⊢
              split at h
              · rename_i a b' h1 h2
                obtain ⟨u,hu⟩:=ih _ _ _ _ h1;obtain ⟨v,hv⟩:=ihl _ h2;rw [hu,hv];exact ⟨_,rfl⟩
              · cases h
          · cases h
        · cases h
    exact sym _ _ _ _ _ h
  obtain ⟨b2,h2⟩:=h2;exact Bw2 h2
theorem Bv7 (d:Nat):∀ (m:Nat) (t:TypeId) (cs es:List Value) (b:Bool) (w:World),eqF P m t cs es=some b→(Op.equalIn (d + m) t (valOf P t cs) (valOf P t es)).run P w = .ok b w:=by
  intro m
  induction m with
  | zero=>intro t cs es b w h;cases h
  | succ m ih =>
    intro t cs es b w h;unfold eqF at h;unfold valOf;rw [show d + (m + 1)=(d + m) + 1 from rfl]
    cases hu:P.underlying t with
    | none=>simp [hu] at h
    | some dd =>
      rw [hu] at h
      cases dd with
      | int k =>
        simp only at h ⊢
        split at h
        · split at h
          · rename_i hk
            cases h
            subst hk;rw [List.headD_cons,List.headD_cons,Bb9 hu];rfl
          · cases h
        · cases h
      | bool =>
        simp only at h ⊢
        split at h
        · cases h
          rw [List.headD_cons,List.headD_cons,run_equalIn_bool w _ _ _ _ hu]
        · cases h
      | string =>
        simp only at h ⊢
        split at h
        · cases h
          rw [List.headD_cons,List.headD_cons,run_equalIn_string w _ _ _ _ hu]
        · cases h
      | struct fs =>
        simp only at h ⊢
        split at h
        · rename_i hc
          have hfs:P.fieldsOf t=fs:=by simp [Program.fieldsOf,hu]
          rw [run_equalIn_struct w (d + m) t _ _ (by rw [hfs];exact hu) hc.1,hfs]
          generalize fs.toList=l at h
          induction l generalizing b with
          | nil=>cases h;simp [Op.eqFields]
          | cons f l ihl =>
            unfold eqFs at h
            split at h
            · cases h
            · rename_i hn
              split at h
              · rename_i a b' h1 h2
                cases h
                unfold Op.eqFields;rw [if_pos hn];simp only [Sem.run_bind,Bw2 h1,BE9 h1,Result.andThen_ok,ih _ _ _ _ w h1]
                cases a with
                | true=>simpa using ihl _ h2
                | false=>simp
              · cases h
        · cases h
      | array n e =>
        simp only at h ⊢
        split at h
        · rename_i hc
          have hn:=hc.1
          have hie:∃ i,P.info? e=some i:=by
            have h0:List.range n=0::(List.range' 1 (n - 1)):=by
              rw [List.range_eq_range']
              cases n with
              | zero=>exact absurd rfl hn
              | succ n=>simp [List.range'_succ]
            rw [h0] at h;unfold eqIs at h
            split at h
            · rename_i a b' h1 h2
              cases m with
              | zero=>cases h1
              | succ m =>
                unfold eqF at h1
                cases hue:P.underlying e with
                | none=>simp [hue] at h1
                | some _=>exact info_of_underlying hue
            · cases h
          obtain ⟨i,hi⟩:=hie;rw [run_equalIn_array w (d + m) _ _ hu hi]
          generalize List.range n=l at h
          induction l generalizing b with
          | nil=>cases h;simp [Op.eqItems]
          | cons j l ihl =>
            unfold eqIs at h
            split at h
            · rename_i a b' h1 h2
              cases h
              unfold Op.eqItems;simp only [Sem.run_bind,Bw2 h1,BE9 h1,Result.andThen_ok,ih _ _ _ _ w h1]
              cases a with
              | true=>simpa using ihl _ h2
              | false=>simp
            · cases h
        · cases h
      | _=>simp at h
end
section
variable {P:Program} {ops:Array Oper} {Q:Exit→Act→World→Prop} {n:Nat} {r:Regs} {ds:List Deferred} {W:World} {chg news:Blks} {rest:List Oper}
variable {d:Nat} {ty:TypeId} {pos:String} {after:Array Edge} {dst:Option Tmp} {gd:Option (Nat×Bool)}
def aggB (P:Program) (T:TypeId):Bool:=!P.eqGuardType P.depth T && match P.underlying T with | some (.struct _)=>true | some (.array _ _)=>true | _=>false
theorem Au4 {T:TypeId} (h:aggB P T=true) (cs:List Value):P.eqGuardType P.depth T=false∧valOf P T cs = .agg cs.toArray:=by
  simp only [aggB,Bool.and_eq_true,Bool.not_eq_true'] at h;refine ⟨h.1,?_⟩
  have h2:=h.2;unfold valOf
  split at h2 <;> simp_all
end
end Go.Eng
/- The engine: maps whose keys are numbers, and loops over them. No program is in sight. -/
namespace Go.Eng
open Go Go.RowKit
def mEntsF:Nat→List (Int×Value)→List MapEntry
  | _,[]=>[]
  | i,x::l=>{ key:=.int .i64 x.1,val:=x.2,born:=i }::mEntsF (i + 1) l
def mapO (l:List (Int×Value)):Obj:=.map (mEntsF 0 l).toArray l.length
def mIdx:List (Int×Value)→Int→Option (Nat×Value)
  | [],_=>none
  | x::l,a=>if x.1=a then some (0,x.2) else (mIdx l a).map fun p=>(p.1 + 1,p.2)
def mFind (l:List (Int×Value)) (a:Int):Option Value:=(mIdx l a).map (·.2)
theorem Be5 {e:MapEntry}:∀ (l:List (Int×Value)) (i:Nat),e∈mEntsF i l→∃ j,∃ h:j < l.length,e={ key:=.int .i64 l[j].1,val:=l[j].2,born:=i + j }
  | [],i,h=>by cases h
  | x::l,i,h=>by
    simp only [mEntsF,List.mem_cons] at h
    rcases h with rfl | h
    · exact ⟨0,by simp,by simp⟩
    · obtain ⟨j,hj,rfl⟩:=Be5 l (i + 1) h
      exact ⟨j + 1,by simp only [List.length_cons];omega,by simp only [List.getElem_cons_succ];rw [show i + 1 + j=i + (j + 1) by omega]⟩
theorem By4:∀ (l:List (Int×Value)) (i j:Nat) (h:j < l.length),({ key:=.int .i64 l[j].1,val:=l[j].2,born:=i + j }:MapEntry)∈mEntsF i l
  | x::l,i,0,_=>by simp [mEntsF]
  | x::l,i,j + 1,h=>by
    have:=By4 l (i + 1) j (by simpa using h)
    simp only [mEntsF,List.mem_cons,List.getElem_cons_succ]
    right
    rw [show i + (j + 1)=i + 1 + j by omega];exact this
theorem AI7 (q:IntKind) (a:Int):∀ (l:List (Int×Value)) (i j:Nat),Instr.findNow (.int q) (.int .i64 a) (mEntsF i l) j=some ((mIdx l a).map fun p=>(j + p.1,p.2))
  | [],_,_=>rfl
  | x::l,i,j=>by
    unfold mEntsF Instr.findNow mIdx
    by_cases h:x.1=a
    · subst h;simp [Instr.sameNow]
    · have h2:(a == x.1)=false:=by simp;exact fun e=>h e.symm
      simp only [Instr.sameNow,if_true,h2,h,if_false];rw [AI7 q a l (i + 1) (j + 1)]
      cases mIdx l a with
      | none=>rfl
      | some p=>simp;omega
def mapB (P:Program) (T:TypeId):Option TypeId:=match P.underlying T with
  | some (.map k e)=>if (P.underlying k).any isIntD then some e else none
  | _=>none
def zeroV (P:Program) (E:TypeId):Option Value:=(P.info? E).bind (·.zero)
theorem Bm3 {P:Program} {T E:TypeId} (h:mapB P T=some E):∃ k q,P.underlying T=some (.map k E)∧P.underlying k=some (.int q):=by
  unfold mapB at h
  split at h
  · rename_i k e hu
    split at h
    · rename_i hk
      obtain ⟨q,hq⟩:=AC0 hk
      cases h
      exact ⟨k,q,hu,hq⟩
    · cases h
  · cases h
section
variable {P:Program} {ops:Array Oper} {Q:Exit→Act→World→Prop} {n:Nat} {r:Regs} {ds:List Deferred} {W:World} {chg news:Blks} {rest:List Oper}
variable {d:Nat} {ty:TypeId} {pos:String} {after:Array Edge} {dst:Option Tmp} {gd:Option (Nat×Bool)}
theorem AT9 {w:World} {T E:TypeId} {b:Nat} {l:List (Int×Value)} {a:Int} {z:Value} {ok:Bool} (hb:w.heap[b]? = some (mapO l)) (hT:mapB P T=some E) (hz:zeroV P E=some z) :
    (Instr.lookup T (.map (some b)) (.int .i64 a) ok).run P w = .ok (if ok then .tuple #[(mFind l a).getD z,.bool (mFind l a).isSome] else (mFind l a).getD z) w:=by
  obtain ⟨k,q,hu,hq⟩:=Bm3 hT
  have hzz:(zeroValue E).run P w = .ok z w:=by
    unfold zeroV at hz
    cases hi:P.info? E with
    | none=>simp [hi] at hz
    | some i =>
      simp [hi] at hz
      simp [zeroValue,typeInfo,hi,hz]
  have hf:(Instr.findKey k (.int .i64 a) (mEntsF 0 l)).run P w = .ok (mIdx l a) w:=by
    have:=AI7 q a l 0 0
    refine (MapKept.run_findKey hq this).trans ?_
    cases mIdx l a <;> simp
  have hc:∀ e,(Instr.checkKey e 10000 k (.int .i64 a)).run P w = .ok () w:=fun e=>by
    rw [show (10000:Nat)=9999 + 1 from rfl];unfold Instr.checkKey;simp [run_underlying hq]
  unfold mapO at hb;unfold mFind;simp only [Instr.lookup,Sem.run_bind,run_underlying hu,Result.andThen_ok,MapKept.run_getObj_map hb,Sem.run_pure];rw [hc];simp only [Result.andThen_ok,hf]
  cases h:mIdx l a with
  | none=>cases ok <;> simp [hzz]
  | some p=>cases ok <;> simp
theorem Val.lookup {x i:Operand} {T E:TypeId} {b:Nat} {l:List (Int×Value)} {a:Int} {z:Value} (hx:rev r x=some (.map (some b))) (hi:rev r i=some (.int .i64 a)) (hb:∀ w,Mem W chg news w→w.heap[b]? = some (mapO l)) (hT:mapB P T=some E) (hz:zeroV P E=some z) :
    Val P r W chg news { dst,op:=.lookup T x i false,type:=ty,pos,after,guard:=gd } ((mFind l a).getD z) :=
  ⟨fun ac w ha hm=>by
    have h1:=AT9 (P:=P) (ok:=false) (a:=a) (hb w hm) hT hz;simp at h1
    simp [execOp,ha.eval hx,ha.eval hi,h1]⟩
theorem New.makeMap {T:TypeId}:New P r W chg news { dst,op:=.makeMap T none,type:=ty,pos,after,guard:=gd } (fun b=>.map (some b)) (mapO []) :=
  ⟨fun a w _ _=>by simp [execOp,Instr.makeMap,newObj,Sem.run,mapO,mEntsF]⟩
theorem Aj6 {w:World} {b:Nat} {o o':Obj} (hb:w.heap[b]? = some o):({ w with heap:=w.heap.setIfInBounds b o' }:World).heap[b]? = some o'∧∀ k,k ≠ b→({ w with heap:=w.heap.setIfInBounds b o' }:World).heap[k]? = w.heap[k]?:=by
  have hlt:=(Array.getElem?_eq_some_iff.1 hb).1;refine ⟨by simp [hlt],fun k hk=>?_⟩
  show (w.heap.setIfInBounds b o')[k]? = _
  rw [Array.getElem?_setIfInBounds,if_neg (fun e=>hk e.symm)]
def itO (m:Nat) (l:List (Int×Value)) (x:List Nat):Obj:=.mapIter (some m) l.length x.toArray l.length
theorem New.range {x:Operand} {T E:TypeId} {m:Nat} {l:List (Int×Value)} (hx:rev r x=some (.map (some m))) (hb:∀ w,Mem W chg news w→w.heap[m]? = some (mapO l)) (hT:mapB P T=some E) :
    New P r W chg news { dst,op:=.range T x,type:=ty,pos,after,guard:=gd } (fun b=>.pointer (some ⟨b,0,none⟩)) (itO m l []) :=
  ⟨fun a w ha hm=>by
    obtain ⟨k,q,hu,hq⟩:=Bm3 hT;have hb':w.heap[m]? = some (.map (mEntsF 0 l).toArray l.length):=hb w hm;simp [execOp,ha.eval hx,Instr.range,run_underlying hu,MapKept.run_getObj_map hb',newObj,Sem.run,itO]⟩
theorem RunL.next {it:Operand} {rb m:Nat} {l:List (Int×Value)} {x:List Nat} {news':Nat→Blks} (hx:rev r it=some (.pointer (some ⟨rb,0,none⟩))) (hm0:∀ w,Mem W chg news w→w.heap[m]? = some (mapO l)) (hu:∀ i,Upd news rb (itO m l x) (itO m l (x++[i])) (news' i)) (hn:Nat.ble (d + 1) n=true)
    (h1:∀ i (hi:i < l.length),i ∉ x→RunL P ops Q n rest ((d,.tuple #[.bool true,.int .i64 l[i].1,l[i].2])::r) ds W chg (news' i))
    (h2:(∀ i,i < l.length→i∈x)→RunL P ops Q n rest ((d,.tuple #[.bool false])::r) ds W chg news) :
    RunL P ops Q n ({ dst:=some d,op:=.next it false,type:=ty,pos,after,guard:=none }::rest) r ds W chg news:=fun a w s =>
  wpList_plain rfl fun K hK=>by
    have hr:w.heap[rb]? = some (.mapIter (some m) l.length x.toArray l.length):=(s.mem.newd _ _ (hu 0).mem).2;have hb:w.heap[m]? = some (.map (mEntsF 0 l).toArray l.length):=hm0 w s.mem;have hev:=s.agree.eval hx
    have hlt:∀ e∈(mEntsF 0 l).toArray.toList,e.born < l.length:=fun e he=>by
      obtain ⟨j,hj,rfl⟩:=Be5 l 0 (by simpa using he);simpa using hj
    unfold Oper.wp
    rcases run_next_at (P:=P) w ty rb m l.length l.length x.toArray (mEntsF 0 l).toArray l.length hr hb hlt (Nat.le_refl _) with ⟨h0,hrun⟩ | ⟨e,he,w1,hw1,hrun⟩
    · simp [execOp,hev,hrun]
      refine hK _ _ (h2 (fun i hi=>?_) _ _ (s.put (Nat.le_of_ble_eq_true hn) _))
      by_cases hc:i∈x
      · exact hc
      · exfalso
        have hin:({ key:=.int .i64 l[i].1,val:=l[i].2,born:=0 + i }:MapEntry)∈leftOf (mEntsF 0 l).toArray x.toArray:=by
          unfold leftOf;simp only [Array.mem_filter,List.mem_toArray];exact ⟨By4 l 0 i hi,by simpa using hc⟩
        have:=Array.size_pos_of_mem hin
        omega
    · have he2:e∈(mEntsF 0 l)∧e.born ∉ x:=by
        have h3:e∈leftOf (mEntsF 0 l).toArray x.toArray:=by simpa using he
        unfold leftOf at h3;simp only [Array.mem_filter,List.mem_toArray] at h3;exact ⟨h3.1,by simpa using h3.2⟩
      obtain ⟨j,hj,rfl⟩:=Be5 l 0 he2.1;have hjx:j ∉ x:=by simpa using he2.2
      simp [execOp,hev,hrun]
      refine hK _ _ (h1 j hj hjx _ _ ?_)
      have s2:=s.put (Nat.le_of_ble_eq_true hn) (.tuple #[.bool true,.int .i64 l[j].1,l[j].2]);have hr1:w1.heap[rb]? = some (.mapIter (some m) l.length x.toArray l.length):=by rcases hw1 with rfl | rfl <;> exact hr
      obtain ⟨q1,q2⟩:=Aj6 (o':=itO m l (x++[j])) hr1
      have hmem1:Mem W chg news w1:=by
        rcases hw1 with rfl | rfl
        · exact s.mem
        · exact s.mem.drew
      refine ⟨s2.size,s2.agree,s2.defers,?_⟩
      have e1:ChangeMaps.setBlock w1 rb (.mapIter (some m) l.length (x++[j]).toArray l.length)={ w1 with heap:=w1.heap.setIfInBounds rb (itO m l (x++[j])) }:=by
        simp [ChangeMaps.setBlock,itO]
      rw [e1];exact hmem1.upd_new (hu j) rfl rfl rfl (by simp) (fun k _ hk=>q2 k hk) q1
theorem AY8:∀ (l:List (Int×Value)) (i:Nat),((mEntsF i l).map (·.born)).Nodup∧∀ b∈(mEntsF i l).map (·.born),i≤b
  | [],_=>by simp [mEntsF]
  | x::l,i=>by
    obtain ⟨h1,h2⟩:=AY8 l (i + 1);simp only [mEntsF,List.map_cons,List.nodup_cons,List.mem_cons,forall_eq_or_imp];exact ⟨⟨fun h=>by have:=h2 _ h;omega,h1⟩,Nat.le_refl _,fun b hb=>by have:=h2 b hb;omega⟩
theorem Val.entry {x:Operand} {rb m i:Nat} {l:List (Int×Value)} {xs:List Nat} (hx:rev r x=some (.pointer (some ⟨rb,0,none⟩))) (hr:∀ w,Mem W chg news w→w.heap[rb]? = some (itO m l (xs++[i]))) (hm0:∀ w,Mem W chg news w→w.heap[m]? = some (mapO l)) (hi:i < l.length) :
    Val P r W chg news { dst,op:=.entry x,type:=ty,pos,after,guard:=gd } (.tuple #[.int .i64 l[i].1,l[i].2]) :=
  ⟨fun a w ha hm=>by
    have h1:w.heap[rb]? = some (.mapIter (some m) l.length (xs.toArray.push (0 + i)) l.length):=by rw [hr w hm];simp [itO]
    have h2:w.heap[m]? = some (.map (mEntsF 0 l).toArray l.length):=hm0 w hm
    have:=run_entry_at (P:=P) w rb m l.length xs.toArray (mEntsF 0 l).toArray l.length { key:=.int .i64 l[i].1,val:=l[i].2,born:=0 + i } h1 h2 (by simpa using By4 l 0 i hi) (by simpa using (AY8 l 0).1)
    simp [execOp,ha.eval hx,this]⟩
theorem Bs9 {x:Operand} {T:TypeId} {len sz b o:Nat} (hx:rev r x=some (.pointer (some ⟨b,o,none⟩))) (hT:arrB P T=some (len + 1,sz)) :
    Val P r W chg news { dst,op:=.slice T x none none none,type:=ty,pos,after,guard:=gd } (.slice (some ⟨b,o,none⟩) (len + 1) (len + 1)) :=
  ⟨fun a w ha _=>by
    unfold arrB at hT
    split at hT
    · rename_i m e hu
      cases hj:P.info? e with
      | none=>simp [hj] at hT
      | some j =>
        simp [hj] at hT
        obtain ⟨rfl,rfl⟩:=hT;simp [execOp,ha.eval hx,Instr.sliceAt,Instr.sureAddr,Instr.sliceBounds,run_underlying hu,sizeOf,typeInfo,hj,add_plain]
    · cases hT⟩
end
structure Vis (n k:Nat) (x:List Nat):Prop where
  nd:x.Nodup
  lt:∀ i∈x,i < n
  len:x.length=k
theorem Vis.nil {n:Nat}:Vis n 0 []:=⟨List.nodup_nil,fun i h=>(by cases h),rfl⟩
theorem Bc8:∀ (n:Nat) (x:List Nat),x.Nodup→(∀ i∈x,i < n)→x.length≤n
  | 0,x,_,h=>by
    cases x with
    | nil=>simp
    | cons a x=>exact absurd (h a (by simp)) (by omega)
  | n + 1,x,hn,h=>by
    by_cases hm:n∈x
    · have h1:=Bc8 n (x.erase n) (hn.erase n) (fun i hi=>by
        have h2:=(List.Nodup.mem_erase_iff hn).1 hi
        have:=h i h2.2
        have:=h2.1
        omega)
      rw [List.length_erase_of_mem hm] at h1;omega
    · have:=Bc8 n x hn (fun i hi=>by
        have:=h i hi
        have:i ≠ n:=fun e=>hm (e ▸ hi)
        omega)
      omega
theorem Vis.snoc {n k i:Nat} {x:List Nat} (h:Vis n k x) (hi:i < n) (hx:i ∉ x):Vis n (k + 1) (x++[i]) :=
  ⟨List.nodup_append.2 ⟨h.nd,by simp,fun a ha b hb=>by cases List.mem_singleton.1 hb;exact fun e=>hx (e ▸ ha)⟩,fun j hj=>by
    rcases List.mem_append.1 hj with hj | hj
    · exact h.lt j hj
    · cases List.mem_singleton.1 hj;exact hi,by simp [h.len]⟩
theorem Vis.more {n k i:Nat} {x:List Nat} (h:Vis n k x) (hi:i < n) (hx:i ∉ x):k < n:=by
  have:=Bc8 n _ (h.snoc hi hx).nd (h.snoc hi hx).lt
  rw [(h.snoc hi hx).len] at this;omega
end Go.Eng
/- The engine: ways in the forced tail of a region that draws; max and min of three numbers. -/
namespace Go.Eng
open Go
variable {P:Program} {r:Regs} {W:World} {chg news:Blks}
theorem RunB.ways {ops:Array Oper} {Q:Exit→Act→World→Prop} {n:Nat} {ds:List Deferred} {fuel:Nat} {listed:Array Bool} {b:Bool} {dj:Nat} (hj:rget r dj=some (.bool b)) (h1:b=true→RunB P ops Q n fuel listed ((dj,.bool true)::r) ds W chg news)
    (h2:b=false→RunB P ops Q n fuel listed ((dj,.bool false)::r) ds W chg news):RunB P ops Q n fuel listed r ds W chg news:=fun a w s=>by
  cases b with
  | true=>exact h1 rfl a w (s.know hj rfl)
  | false=>exact h2 rfl a w (s.know hj rfl)
section
variable {ty:TypeId} {pos:String} {after:Array Edge} {dst:Option Tmp} {gd:Option (Nat×Bool)}
end
end Go.Eng
/- The engine: strings, by the lists of their bytes; bytes of a string as a new block; maps whose keys are pairs. No program is in sight. -/
namespace Go.Eng
open Go Go.RowKit
def bs (l:List UInt8):ByteArray:=⟨⟨l⟩⟩
theorem Am6 (l:List UInt8):(bs l).size=l.length:=rfl
theorem CO4 {a b:List UInt8}:bs a=bs b ↔ a=b:=⟨fun h=>congrArg (fun s=>s.data.toList) h,fun h=>by rw [h]⟩
theorem Cf3 (l:List UInt8):(bs l).toList=l:=ByteArray.toList_mk l
def byteV (c:UInt8):Value:=.int .u8 c.toNat
theorem AZ1 (l:List UInt8) (a b:Nat):(bs l).extract a b=bs ((l.drop a).take (b - a)):=by
  rw [ByteArray.ext_iff,ByteArray.data_extract]
  show (l.toArray).extract a b=((l.drop a).take (b - a)).toArray
  rw [List.extract_toArray,List.extract_eq_take_drop]
theorem Cf4 (a b:List UInt8):bs a++bs b=bs (a++b):=by
  rw [ByteArray.ext_iff,ByteArray.data_append];simp [bs]
structure NewX {β:Type} (P:Program) (r:Regs) (W:World) (chg news:Blks) (o:Oper) (v:β→Nat→Value) (ob:β→Obj) (I:β→Prop):Prop where
  run:∀ a w,Agree a r→Mem W chg news w→∃ x,I x∧((execOp a.eval o).run P w = .ok (.value (v x w.heap.size)) (w.alloc (ob x))∨(execOp a.eval o).run P w = .ok (.value (v x w.heap.size)) (w.drew.alloc (ob x)))
section
variable {P:Program} {ops:Array Oper} {Q:Exit→Act→World→Prop} {n:Nat} {r:Regs} {ds:List Deferred} {W:World} {chg news:Blks} {rest:List Oper}
variable {d:Nat} {ty:TypeId} {pos:String} {after:Array Edge} {dst:Option Tmp} {gd:Option (Nat×Bool)}
variable {i:Nat} {K:Act→World→Prop}
def bytesO (e:TypeId) (l:List Value) (p:Nat):Obj:=Obj.cells (l++List.replicate p (Value.int .u8 0)).toArray e (l.length + p,l.length + p + 1)
theorem NewX.bytes {x:Operand} {S T e:TypeId} {l:List UInt8} (hx:rev r x=some (.string (bs l))) (hS:P.underlying S=some .string) (hT:P.underlying T=some (.slice e)) (he:P.underlying e=some (.int .u8)) :
    NewX P r W chg news { dst,op:=.convert S T x,type:=ty,pos,after,guard:=gd } (fun p b=>.slice (some ⟨b,0,none⟩) l.length (l.length + p)) (fun p=>bytesO e (l.map byteV) p) (fun _:Nat=>True) :=
  ⟨fun a w ha _=>by
    refine ⟨(Question.appendCap l.length 0 e).cut (w.tape w.drawn (Question.appendCap l.length 0 e)) - l.length,trivial,.inr ?_⟩
    have hc:l.length≤(Question.appendCap l.length 0 e).cut (w.tape w.drawn (Question.appendCap l.length 0 e)):=by simp [Question.cut]
    generalize hq:(Question.appendCap l.length 0 e).cut (w.tape w.drawn (Question.appendCap l.length 0 e))=q at hc ⊢
    have hf:(Question.appendCap l.length 0 e).forced=false:=rfl;have hb:(bs l).size=l.length:=rfl;simp only [execOp,ha.eval hx,convert,Sem.run_bind,run_underlying hS,run_underlying hT,Result.andThen_ok,Sem.run_pure,run_underlying he];simp only [Conv.stringToBytes,hb,Sem.run_bind,run_choose_drew,hf,hq,Result.andThen_ok,Sem.run_pure]
    have e1:Array.map (fun b:UInt8=>Value.int IntKind.u8 (b.toNat:Int)) (bs l).data++Array.replicate (q - l.length) (Value.int IntKind.u8 0)=(l.map byteV++List.replicate (q - l.length) (Value.int .u8 0)).toArray:=by
      simp [bs,byteV]
    have e2:((l.map byteV++List.replicate (q - l.length) (Value.int .u8 0)).toArray).size=q:=by simp;omega
    have e3:l.length + (q - l.length)=q:=by omega
    simp only [Bool.false_eq_true,if_false,Result.andThen_ok,e1]
    generalize hX:(l.map byteV++List.replicate (q - l.length) (Value.int .u8 0)).toArray=X at e2 ⊢
    have h4:(newRow e X).run P w.drew = .ok ⟨w.heap.size,0,none⟩ (w.drew.alloc (.cells X e)):=by simp [newRow]
    have h5:(markStringish ⟨w.heap.size,0,none⟩).run P (w.drew.alloc (.cells X e)) = .ok () (w.drew.alloc (.cells X e (q,q + 1))):=by
      have h6:(w.drew.alloc (.cells X e)).shape? w.heap.size=some (e,q):=by
        have h8:(w.drew.alloc (.cells X e)).heap[w.heap.size]? = some (.cells X e):=by
          show (w.heap.push (Obj.cells X e))[w.heap.size]? = _
          simp
        unfold World.shape?;rw [h8];simp only [e2]
      have h7:(w.drew.alloc (.cells X e)).freeze { block:=w.heap.size,off:=q } 1=w.drew.alloc (.cells X e (q,q + 1)):=by
        unfold World.freeze;rw [if_neg (by decide)]
        show ({ w with drawn:=w.drawn + 1,heap:=(w.heap.push (Obj.cells X e)).modify w.heap.size _ }:World)={ w with drawn:=w.drawn + 1,heap:=w.heap.push (Obj.cells X e (q,q + 1)) }
        congr 1
        refine Array.ext (by simp) fun i h1 h2=>?_
        simp only [Array.getElem_modify]
        by_cases hi:w.heap.size=i
        · subst hi;simp
        · have:i < w.heap.size:=by simp at h2;omega
          simp [hi,Array.getElem_push,this]
      simp [markStringish,h6,h7]
    simp only [h4,Result.andThen_ok,h5,e3];subst hX;simp [bytesO,e3]⟩
/-! ### Operations on strings -/
theorem CH3 {f:FuncId} {fn:Func} {e:Array Value→Sem Value} {xs:List Operand} {vs:List Value} {ats:Array TypeId} {v:Value} (hf:P.funcs[f]? = some fn) (hname:(fn.name == "runtime.NumGoroutine")=false) (hb:fn.body.isNone=true) (hn:Extern.findNext fn=none) (he:Extern.find fn=some e)
    (hx:revs r xs=some vs) (hv:∀ w,(e vs.toArray).run P w = .ok v w) :
    Val P r W chg news { dst,op:=.call { callee:=.value (.func f),args:=xs.toArray,argTypes:=ats },type:=ty,pos,after,guard:=gd } v :=
  ⟨fun a w ha _=>by
    have h1:=ha.evals hx;have h2:=run_callFunc_extern hf hname hb hn he vs.toArray w;rw [hv w] at h2;simp [execOp,resolve,h1,Deferred.ofValue,Act.eval,invoke]
    exact h2⟩
theorem AM2 {x:Operand} {T:TypeId} {l:List UInt8} (hx:rev r x=some (.string (bs l))) (hT:P.underlying T=some .string) {ats:Array TypeId} (_h:ats = #[T]:=by rfl) :
    Val P r W chg news { dst,op:=.call { callee:=.builtin .len,args:=#[x],argTypes:=ats },type:=ty,pos,after,guard:=gd } (.int .i64 (l.length:Int)):=by
  subst _h;exact BB3 hx hT
theorem Val.nilIface {x:Operand} {t:TypeId} {v:Value} (hx:rev r x=some (.iface t v)):Val P r W chg news { dst,op:=.nilCheck x,type:=ty,pos,after,guard:=gd } (.iface t v) :=
  ⟨fun a w ha _=>by simp [execOp,ha.eval hx]⟩
theorem AA5 {v:Value} {k:IntKind} {m:Nat} {y:Nat} {code:BoundsCode} {w:World} (hv:v=Value.int k (m:Int)) (h:m≤y):(Instr.sliceBound v y code).run P w = .ok m w:=by
  subst hv;have h1:(0:Int)≤(m:Int)∧(m:Int)≤(y:Int):=⟨by omega,by omega⟩;simp [Instr.sliceBound,asIntOf,h1]
theorem Bs7 {x hi:Operand} {T:TypeId} {l:List UInt8} {k':IntKind} {b:Nat} (hx:rev r x=some (.string (bs l))) (hhi:rev r hi=some (.int k' b)) (hT:P.underlying T=some .string) (hb:b≤l.length) :
    Val P r W chg news { dst,op:=.slice T x none (some hi) none,type:=ty,pos,after,guard:=gd } (.string (bs (l.take b))) :=
  ⟨fun ac w ha _=>by
    simp [execOp,ha.eval hx,ha.eval hhi,Instr.sliceAt,Instr.slice,Instr.sliceBounds,run_underlying hT,AA5 (P:=P) (y:=(bs l).size) (w:=w) (v:=Value.int k' (b:Int)) rfl (by rw [Am6];exact hb),AZ1]⟩
theorem BB1 {x lo:Operand} {T:TypeId} {l:List UInt8} {k:IntKind} {a:Nat} (hx:rev r x=some (.string (bs l))) (hlo:rev r lo=some (.int k a)) (hT:P.underlying T=some .string) (ha':a≤l.length) :
    Val P r W chg news { dst,op:=.slice T x (some lo) none none,type:=ty,pos,after,guard:=gd } (.string (bs (l.drop a))) :=
  ⟨fun ac w ha _=>by
    have e:(l.drop a).take ((bs l).size - a)=l.drop a:=by rw [Am6];exact List.take_of_length_le (by simp)
    simp [execOp,ha.eval hx,ha.eval hlo,Instr.sliceAt,Instr.slice,Instr.sliceBounds,run_underlying hT,AA5 (P:=P) (y:=(bs l).size) (w:=w) (v:=Value.int k (a:Int)) rfl (by rw [Am6];exact ha'),AZ1,e]⟩
theorem Ak4 {x y:Operand} {T yt:TypeId} {a b:List UInt8} (hx:rev r x=some (.string (bs a))) (hy:rev r y=some (.string (bs b))) (h:a.length + b.length≤9223372036854775807) :
    Val P r W chg news { dst,op:=.binOp .add T x y yt,type:=ty,pos,after,guard:=gd } (.string (bs (a++b))) :=
  ⟨fun ac w ha _=>by
    have h1:¬ (((bs a).size + (bs b).size:Nat):Int) > IntKind.i64.max:=by
      rw [Am6,Am6]
      have:IntKind.i64.max=9223372036854775807:=by decide
      omega
    have h2:(Op.stringOp .add (bs a) (bs b)).run P w = .ok (.string (bs (a++b))) w:=by
      unfold Op.stringOp;simp only [if_neg h1,Sem.run_pure,Cf4]
    simp [execOp,ha.eval hx,ha.eval hy,eqGuard,binOp_string_add,h2]⟩
theorem AZ6 {x y:Operand} {T yt:TypeId} {a b:List UInt8} (hx:rev r x=some (.string (bs a))) (hy:rev r y=some (.string (bs b))) :
    Val P r W chg news { dst,op:=.binOp .eql T x y yt,type:=ty,pos,after,guard:=gd } (.bool (decide (a=b))) :=
  ⟨fun ac w ha _=>by
    have e:(a == b)=decide (a=b):=by rw [Bool.eq_iff_iff];simp
    simp [execOp,ha.eval hx,ha.eval hy,eqGuard,binOp_string_eql,Cf3,e]⟩
end
/-! ### Maps whose keys are pairs of numbers -/
def pk (p:Nat×Nat):Value:=.agg #[.int .i64 (p.1:Int),.int .u64 (p.2:Int)]
def entsG:Nat→List ((Nat×Nat)×Value)→List MapEntry
  | _,[]=>[]
  | i,x::l=>{ key:=pk x.1,val:=x.2,born:=i }::entsG (i + 1) l
def gIdx:List ((Nat×Nat)×Value)→Nat×Nat→Option (Nat×Value)
  | [],_=>none
  | x::l,a=>if x.1=a then some (0,x.2) else (gIdx l a).map fun p=>(p.1 + 1,p.2)
def keyPairB (P:Program) (k:TypeId):Bool:=match P.underlying k with
  | some (.struct fs)=>match fs.toList with
    | [f,g]=>decide (f.name ≠ "_") && decide (g.name ≠ "_") && f.offset == 0 && g.offset == 1 && (P.underlying f.type).any isIntD && (P.underlying g.type).any isIntD
    | _=>false
  | _=>false
def mapKB (P:Program) (T:TypeId):Option (TypeId×TypeId):=match P.underlying T with
  | some (.map k e)=>some (k,e)
  | _=>none
structure Keyed (P:Program) (T k E:TypeId):Prop where
  map:mapKB P T=some (k,E)
  fields:keyPairB P k=true
  agg:aggB P k=true
  eq:∀ a b c d:Int,eqF P 8 k [.int .i64 a,.int .u64 b] [.int .i64 c,.int .u64 d]=some (decide (a=c) && (decide (b=d) && true))
section
variable {P:Program} {ops:Array Oper} {Q:Exit→Act→World→Prop} {n:Nat} {r:Regs} {ds:List Deferred} {W:World} {chg news:Blks} {rest:List Oper}
variable {d:Nat} {ty:TypeId} {pos:String} {after:Array Edge} {dst:Option Tmp} {gd:Option (Nat×Bool)}
theorem Keyed.und {T k E:TypeId} (h:Keyed P T k E):P.underlying T=some (.map k E):=by
  have:=h.map
  unfold mapKB at this
  split at this
  · rename_i hu;cases this;exact hu
  · cases this
theorem Keyed.str {T k E:TypeId} (h:Keyed P T k E):∃ f g q q',P.underlying k=some (.struct #[f,g])∧f.name ≠ "_"∧g.name ≠ "_"∧f.offset=0∧g.offset=1∧P.underlying f.type=some (.int q)∧P.underlying g.type=some (.int q'):=by
  have h1:=h.fields;unfold keyPairB at h1
  split at h1
  · rename_i fs hu
    split at h1
    · rename_i f g hfs
      simp only [Bool.and_eq_true,decide_eq_true_eq,beq_iff_eq] at h1;obtain ⟨⟨⟨⟨⟨a1,a2⟩,a3⟩,a4⟩,a5⟩,a6⟩:=h1;obtain ⟨q,hq⟩:=AC0 a5;obtain ⟨q',hq'⟩:=AC0 a6
      have e:fs = #[f,g]:=by
        have:=congrArg List.toArray hfs
        simpa using this
      exact ⟨f,g,q,q',by rw [hu,e],a1,a2,a3,a4,hq,hq'⟩
    · cases h1
  · cases h1
theorem Keyed.same {T k E:TypeId} (h:Keyed P T k E) (a b:Nat×Nat) (w:World):(Op.equal k (pk a) (pk b)).run P w = .ok (decide (a=b)) w:=by
  have h1:=Bv7 9992 8 k _ _ _ w (h.eq (a.1:Int) (a.2:Int) (b.1:Int) (b.2:Int));rw [(Au4 h.agg _).2,(Au4 h.agg _).2] at h1
  have e:decide (a=b)=(decide ((a.1:Int)=b.1) && (decide ((a.2:Int)=b.2) && true)):=by
    rw [Bool.eq_iff_iff];simp only [Bool.and_eq_true,decide_eq_true_eq,and_true,Prod.ext_iff];omega
  rw [e];exact h1
theorem Keyed.check {T k E:TypeId} (h:Keyed P T k E) (e:Bool) (a:Nat×Nat) (w:World):(Instr.checkKey e 10000 k (pk a)).run P w = .ok () w:=by
  obtain ⟨f,g,q,q',hu,n1,n2,o1,o2,u1,u2⟩:=h.str
  have hi:∀ (t:TypeId) (q:IntKind) (kk:IntKind) (v:Int),P.underlying t=some (.int q)→(Instr.checkKey e 9999 t (.int kk v)).run P w = .ok () w:=fun t q kk v hq=>by
    rw [show (9999:Nat)=9998 + 1 from rfl];unfold Instr.checkKey;simp [run_underlying hq]
  have p1:(part f.type #[.int .i64 (a.1:Int),.int .u64 (a.2:Int)] 0).run P w = .ok (.int .i64 (a.1:Int)) w:=Al1 u1 rfl rfl;have p2:(part g.type #[.int .i64 (a.1:Int),.int .u64 (a.2:Int)] 1).run P w = .ok (.int .u64 (a.2:Int)) w:=Al1 u2 rfl rfl;rw [show (10000:Nat)=9999 + 1 from rfl];unfold Instr.checkKey pk;simp [run_underlying hu,n1,n2,o1,o2,p1,p2,hi _ _ _ _ u1,hi _ _ _ _ u2]
theorem Keyed.asking {T k E:TypeId} (h:Keyed P T k E) (a:Nat×Nat) (w:World):∀ (l:List ((Nat×Nat)×Value)) (i j:Nat),(Instr.findAsking k (pk a) (entsG i l) j).run P w = .ok ((gIdx l a).map fun p=>(j + p.1,p.2)) w
  | [],_,_=>rfl
  | x::l,i,j=>by
    unfold entsG Instr.findAsking gIdx;have h1:=h.same a x.1 w
    by_cases hx:x.1=a
    · subst hx
      simp at h1
      simp [h1]
    · have hx2:¬ a=x.1:=fun e=>hx e.symm
      simp only [hx2,decide_false] at h1;simp only [Sem.run_bind,h1,Result.andThen_ok,Bool.false_eq_true,if_false,if_neg hx,Keyed.asking h a w l (i + 1) (j + 1)]
      cases gIdx l a with
      | none=>rfl
      | some p=>simp;omega
theorem Keyed.find {T k E:TypeId} (h:Keyed P T k E) (a:Nat×Nat) (l:List ((Nat×Nat)×Value)) (w:World):(Instr.findKey k (pk a) (entsG 0 l)).run P w = .ok (gIdx l a) w:=by
  obtain ⟨f,g,q,q',hu,_⟩:=h.str;have h2:=h.asking a w l 0 0;have e:((gIdx l a).map fun p=>(0 + p.1,p.2))=gIdx l a:=by cases gIdx l a <;> simp
  rw [e] at h2
  cases l with
  | nil=>simp [Instr.findKey,run_underlying hu,entsG,Instr.findNow,gIdx]
  | cons x l =>
    have h3:Instr.findNow (.struct #[f,g]) (pk a) (entsG 0 (x::l)) 0=none:=by
      unfold entsG Instr.findNow;rfl
    simp [Instr.findKey,run_underlying hu,h3,h2]
end
end Go.Eng
/- The engine: calls that turn a block into one of some. No program is in sight. -/
namespace Go.Eng
open Go Go.RowKit
section
variable {P:Program} {ops:Array Oper} {Q:Exit→Act→World→Prop} {n:Nat} {r:Regs} {ds:List Deferred} {W:World} {chg news:Blks} {rest:List Oper} {d:Nat}
variable {K:Act→World→Prop} {i:Nat}
theorem AB3 {w:World} {T e:TypeId} {b:Addr} {k c:Nat} (hT:P.underlying T=some (.slice e)):(Op.equal T (.slice (some b) k c) (.slice none 0 0)).run P w = .ok false w:=by
  have h:∀ d,(Op.equalIn (d + 1) T (.slice (some b) k c) (.slice none 0 0)).run P w = .ok false w:=fun d=>by simp [Op.equalIn,run_underlying hT]
  exact h 9999
variable {ty:TypeId} {pos:String} {after:Array Edge} {dst:Option Tmp} {gd:Option (Nat×Bool)}
theorem Ax4 {x:Operand} {T yt e:TypeId} {b:Addr} {k c:Nat} (hx:rev r x=some (.slice (some b) k c)) (hT:P.underlying T=some (.slice e)) :
    Val P r W chg news { dst,op:=.binOp .eql T x (.const (.slice none 0 0)) yt,type:=ty,pos,after,guard:=gd } (.bool false) :=
  ⟨fun a w ha _=>by
    have h:=AB3 (P:=P) (w:=w) (b:=b) (k:=k) (c:=c) hT;simp [execOp,ha.eval hx,BigFrame.eval_const,eqGuard,binOp,h]⟩
end
end Go.Eng
/- The engine: strings of runes and of bytes. No program is in sight. -/
namespace Go.Eng
open Go Go.RowKit
section
variable {P:Program} {r:Regs} {W:World} {chg news:Blks} {dst:Option Tmp} {gd:Option (Nat×Bool)} {ty:TypeId} {pos:String} {after:Array Edge}
theorem Am7 {x:Operand} {T e:TypeId} {sz s2 n:Nat} {z:Own} {xs:List Value} (hx:rev r x=some (ownV z n)) (hT:slB P T=some (e,sz)) (h:OwnOk s2 z n xs) :
    Val P r W chg news { dst,op:=.call { callee:=.builtin .len,args:=#[x],argTypes:=#[T] },type:=ty,pos,after,guard:=gd } (.int .i64 (n:Int)):=by
  rw [Ad5 h] at hx;exact Ad7 hx hT
theorem BB8 {ops:Array Oper} {Q:Exit→Act→World→Prop} {n:Nat} {ds:List Deferred} {rest:List Oper} {d:Nat} {β:Type} {o:Oper} {f:FuncId} {args:Array Value} {v:β→Value} {U:β→Blks} (A T:Blks) (hne:news=A++T) (hi:IsCall P r o f args) (hg:guardB ops r o.guard=some true) (hd:o.dst=some d) (hn:Nat.ble (d + 1) n=true)
    (hc:∀ w,Mem W chg news w→Calls P f args w (News v (fun b=>U b++[]) w)) (h:∀ b,RunL P ops Q n rest ((d,v b)::r) ds W chg (A++(U b++T))):RunL P ops Q n (o::rest) r ds W chg news :=
  RunL.call hg hd (fun a w s=>hi.runs a w s.agree) hc (fun a w e w' s hR=>by
    obtain ⟨b,rfl,hm⟩:=hR;have s2:=s.put (Nat.le_of_ble_eq_true hn) (v b);have h1:Mem W chg ((U b++[])++news) w':=s.mem.trans hm;rw [List.append_nil,hne] at h1;exact h b _ _ ⟨s2.size,s2.agree,s2.defers,h1.perm (List.perm_append_comm_assoc _ _ _)⟩)
end
end Go.Eng
namespace Go.Eng
open Go Go.RowKit
def isStrD:TypeDesc→Bool
  | .string=>true
  | _=>false
def sEntsF:Nat→List (List UInt8×Value)→List MapEntry
  | _,[]=>[]
  | i,x::l=>{ key:=.string (bs x.1),val:=x.2,born:=i }::sEntsF (i + 1) l
def mapS (l:List (List UInt8×Value)):Obj:=.map (sEntsF 0 l).toArray l.length
def sIdx:List (List UInt8×Value)→List UInt8→Option (Nat×Value)
  | [],_=>none
  | x::l,a=>if x.1=a then some (0,x.2) else (sIdx l a).map fun p=>(p.1 + 1,p.2)
def sFind (l:List (List UInt8×Value)) (a:List UInt8):Option Value:=(sIdx l a).map (·.2)
theorem AW0:∀ (l:List (List UInt8×Value)) (i:Nat) (x:List UInt8×Value),sEntsF i (l++[x])=sEntsF i l++[{ key:=.string (bs x.1),val:=x.2,born:=i + l.length }]
  | [],i,x=>by simp [sEntsF]
  | y::l,i,x=>by
    simp only [List.cons_append,sEntsF,AW0 l (i + 1) x,List.length_cons];rw [show i + 1 + l.length=i + (l.length + 1) by omega]
theorem Av8 (a:List UInt8):∀ (l:List (List UInt8×Value)) (i j:Nat),Instr.findNow .string (.string (bs a)) (sEntsF i l) j=some ((sIdx l a).map fun p=>(j + p.1,p.2))
  | [],_,_=>rfl
  | x::l,i,j=>by
    unfold sEntsF Instr.findNow sIdx
    by_cases h:x.1=a
    · have h2:(bs a == bs x.1)=true:=(MapKept.bytes_beq _ _).2 (by rw [h])
      simp only [Instr.sameNow,h2,if_pos h,Option.map_some,Nat.add_zero]
    · have h2:(bs a == bs x.1)=false:=by
        rw [Bool.eq_false_iff];exact fun e=>h (CO4.1 ((MapKept.bytes_beq _ _).1 e)).symm
      simp only [Instr.sameNow,h2,if_neg h];rw [Av8 a l (i + 1) (j + 1)]
      cases sIdx l a with
      | none=>rfl
      | some p=>simp;omega
def mapSB (P:Program) (T:TypeId):Option TypeId:=match P.underlying T with
  | some (.map k e)=>if (P.underlying k).any isStrD then some e else none
  | _=>none
theorem AX2 {P:Program} {T E:TypeId} (h:mapSB P T=some E):∃ k,P.underlying T=some (.map k E)∧P.underlying k=some .string:=by
  unfold mapSB at h
  split at h
  · rename_i k e hu
    split at h
    · rename_i hk
      cases h
      refine ⟨k,hu,?_⟩
      cases hd:P.underlying k with
      | none=>rw [hd] at hk;cases hk
      | some d=>rw [hd] at hk;cases d <;> first | rfl | cases hk
    · cases h
  · cases h
section
variable {P:Program} {ops:Array Oper} {Q:Exit→Act→World→Prop} {n:Nat} {r:Regs} {ds:List Deferred} {W:World} {chg news:Blks} {rest:List Oper}
variable {d:Nat} {ty:TypeId} {pos:String} {after:Array Edge} {dst:Option Tmp} {gd:Option (Nat×Bool)}
theorem AT8 {w:World} {T E:TypeId} {b:Nat} {l:List (List UInt8×Value)} {a:List UInt8} {z:Value} {ok:Bool} (hb:w.heap[b]? = some (mapS l)) (hT:mapSB P T=some E) (hz:zeroV P E=some z) :
    (Instr.lookup T (.map (some b)) (.string (bs a)) ok).run P w = .ok (if ok then .tuple #[(sFind l a).getD z,.bool (sFind l a).isSome] else (sFind l a).getD z) w:=by
  obtain ⟨k,hu,hq⟩:=AX2 hT
  have hzz:(zeroValue E).run P w = .ok z w:=by
    unfold zeroV at hz
    cases hi:P.info? E with
    | none=>simp [hi] at hz
    | some i =>
      simp [hi] at hz
      simp [zeroValue,typeInfo,hi,hz]
  have hf:(Instr.findKey k (.string (bs a)) (sEntsF 0 l)).run P w = .ok (sIdx l a) w:=by
    have:=Av8 a l 0 0
    refine (MapKept.run_findKey hq this).trans ?_
    cases sIdx l a <;> simp
  have hc:∀ e,(Instr.checkKey e 10000 k (.string (bs a))).run P w = .ok () w:=fun e=>by
    rw [show (10000:Nat)=9999 + 1 from rfl];unfold Instr.checkKey;simp [run_underlying hq]
  unfold mapS at hb;unfold sFind;simp only [Instr.lookup,Sem.run_bind,run_underlying hu,Result.andThen_ok,MapKept.run_getObj_map hb,Sem.run_pure];rw [hc];simp only [Result.andThen_ok,hf]
  cases h:sIdx l a with
  | none=>cases ok <;> simp [hzz]
  | some p=>cases ok <;> simp
theorem Bh3 {x i:Operand} {T E:TypeId} {b:Nat} {l:List (List UInt8×Value)} {a:List UInt8} {z:Value} (hx:rev r x=some (.map (some b))) (hi:rev r i=some (.string (bs a))) (hb:∀ w,Mem W chg news w→w.heap[b]? = some (mapS l)) (hT:mapSB P T=some E) (hz:zeroV P E=some z) :
    Val P r W chg news { dst,op:=.lookup T x i true,type:=ty,pos,after,guard:=gd } (.tuple #[(sFind l a).getD z,.bool (sFind l a).isSome]) :=
  ⟨fun ac w ha hm=>by
    have h1:=AT8 (P:=P) (ok:=true) (a:=a) (hb w hm) hT hz;simp at h1
    simp [execOp,ha.eval hx,ha.eval hi,h1]⟩
theorem Ay1 {T:TypeId}:New P r W chg news { dst,op:=.makeMap T none,type:=ty,pos,after,guard:=gd } (fun b=>.map (some b)) (mapS []) :=
  ⟨fun a w _ _=>by simp [execOp,Instr.makeMap,newObj,Sem.run,mapS,sEntsF]⟩
theorem At9 {w:World} {T E:TypeId} {b:Nat} {l:List (List UInt8×Value)} {a:List UInt8} {v:Value} (hb:w.heap[b]? = some (mapS l)) (hT:mapSB P T=some E) (hk:sIdx l a=none) :
    (Instr.mapUpdate T (.map (some b)) (.string (bs a)) v).run P w = .ok () { w with heap:=w.heap.setIfInBounds b (mapS (l++[(a,v)])) }:=by
  obtain ⟨k,hu,hq⟩:=AX2 hT
  have hf:(Instr.findKey k (.string (bs a)) (sEntsF 0 l)).run P w = .ok none w:=by
    have:=Av8 a l 0 0
    rw [hk] at this;exact MapKept.run_findKey hq this
  have hc:∀ e,(Instr.checkKey e 10000 k (.string (bs a))).run P w = .ok () w:=fun e=>by
    rw [show (10000:Nat)=9999 + 1 from rfl];unfold Instr.checkKey;simp [run_underlying hq]
  have e1:mapS (l++[(a,v)]) = .map ((sEntsF 0 l).toArray.push { key:=.string (bs a),val:=v,born:=l.length }) (l.length + 1):=by
    unfold mapS;rw [AW0];simp
  unfold mapS at hb;rw [e1];simp only [Instr.mapUpdate,Sem.run_bind,run_underlying hu,Result.andThen_ok,MapKept.run_getObj_map hb,hc,hf,MapKept.run_setObj_map _ hb]
theorem AS2 {x i y:Operand} {T E:TypeId} {b:Nat} {l:List (List UInt8×Value)} {a:List UInt8} {v:Value} {news':Blks} (hx:rev r x=some (.map (some b))) (hi:rev r i=some (.string (bs a))) (hy:rev r y=some v) (hu:Upd news b (mapS l) (mapS (l++[(a,v)])) news') (hT:mapSB P T=some E) (hk:sIdx l a=none) :
    Sto P r W chg news { dst,op:=.mapUpdate T x i y,type:=ty,pos,after,guard:=gd } chg news' :=
  ⟨fun ac w ha hm=>by
    have hb:=(hm.newd _ _ hu.mem).2;obtain ⟨s1,s2⟩:=Aj6 (o':=mapS (l++[(a,v)])) hb;refine ⟨{ w with heap:=w.heap.setIfInBounds b (mapS (l++[(a,v)])) },by simp [execOp,ha.eval hx,ha.eval hi,ha.eval hy,At9 hb hT hk],hm.upd_new hu rfl rfl rfl (by simp) (fun k _ hk=>s2 k hk) s1⟩⟩
end
end Go.Eng
/- The engine: calls in a world that has blocks of the caller's; calls that may panic there; ranges over functions whose rounds may panic. No program is in sight. -/
namespace Go.Eng
open Go Go.RowKit
open Classical in
theorem Pick.cnt:∀ {l l':Blks} (_:∀ x,l.count x≤l'.count x),Pick l l'
  | [],_,_=>.nil
  | (b,o)::l,l',h=>by
    have h1:(b,o)∈l':=by
      have:=h (b,o)
      rw [List.count_cons_self] at this;exact List.count_pos_iff.1 (by omega)
    have take:∀ {l':Blks},(b,o)∈l'→∃ l2,Take (b,o) l' l2:=by
      intro l'
      induction l' with
      | nil=>intro h;cases h
      | cons y l' ih =>
        intro h
        rcases List.mem_cons.1 h with rfl | h
        · exact ⟨_,.here⟩
        · obtain ⟨l2,h2⟩:=ih h;exact ⟨_,.there h2⟩
    obtain ⟨l2,h2⟩:=take h1;refine .cons h2 rfl (Pick.cnt fun x=>?_)
    have h3:=h x;rw [h2.perm.count_eq,List.count_cons,List.count_cons] at h3;omega
def Grow {β:Type} (W0:World) (chg:Blks) (v:β→Value) (nw:β→Blks) (I:β→Prop) (e:Ending) (w:World):Prop:=∃ b:β,I b∧e = .returned (v b)∧Mem W0 chg (nw b) w
def GrowT {β γ:Type} (W0:World) (chg:Blks) (v:β→Value) (nw:β→Blks) (I:β→Prop) (mis:Int→Value) (kk:γ→Int) (np:γ→Blks) (J:γ→Prop) (e:Ending) (w:World):Prop :=
  (∃ b:β,I b∧e = .returned (v b)∧Mem W0 chg (nw b) w)∨(∃ c:γ,J c∧e = .panicked [{ v:=mis (kk c),recovered:=false }]∧Mem W0 chg (np c) w)
section
variable {P:Program} {ops:Array Oper} {Q:Exit→Act→World→Prop} {n:Nat} {r:Regs} {ds:List Deferred} {W:World} {chg news:Blks} {rest:List Oper} {d:Nat}
theorem Af0 {f:FuncId} {fn:Func} {c:Code} {vs:List Value} {R:Ending→World→Prop} {w:World} (hm:Mem W chg news w) (hf:P.funcs[f]? = some fn) (hb:fn.body=some c) (hn:Nat.ble vs.length fn.ntmps=true)
    (h:RunC P (bodyPost P fn R) fn.ntmps c (args0 0 vs) [] W chg news):Calls P f vs.toArray w R:=by
  have s:=Av2 (Nat.le_of_ble_eq_true hn) (Mem.refl w) (vs:=vs);exact calls_of_wp hf hb (h _ _ ⟨s.size,s.agree,s.defers,hm⟩)
theorem Ag7 {β:Type} {o:Oper} {f:FuncId} {args:Array Value} {v:β→Value} {nw:β→Blks} {I:β→Prop} (hi:IsCall P r o f args) (hg:guardB ops r o.guard=some true) (hd:o.dst=some d) (hn:Nat.ble (d + 1) n=true)
    (hc:∀ w,Mem W chg news w→Calls P f args w (Grow W chg v nw I)) (h:∀ b,I b→RunL P ops Q n rest ((d,v b)::r) ds W chg (nw b)):RunL P ops Q n (o::rest) r ds W chg news :=
  RunL.call hg hd (fun a w s=>hi.runs a w s.agree) hc (fun a w e w' s hR=>by
    obtain ⟨b,hI,rfl,hm⟩:=hR;have s2:=s.put (Nat.le_of_ble_eq_true hn) (v b);exact h b hI _ _ ⟨s2.size,s2.agree,s2.defers,hm⟩)
theorem Az4 {i:Nat} {K:Act→World→Prop} {β:Type} {o:Oper} {f:FuncId} {args:Array Value} {v:β→Value} {nw:β→Blks} {I:β→Prop} (ho:ops[i]? = some o) (hi:IsCall P r o f args) (hg:guardB ops r o.guard=some true) (hd:o.dst=some d) (hn:Nat.ble (d + 1) n=true)
    (hc:∀ w,Mem W chg news w→Calls P f args w (Grow W chg v nw I)) (h:∀ b,I b→RunK n K ((d,v b)::r) ds W chg (nw b)):RunI P ops Q n i K r ds W chg news :=
  RunI.call ho hi hg hc (fun a w e w' s hR=>by
    obtain ⟨b,hI,rfl,hm⟩:=hR;have s2:=s.put (Nat.le_of_ble_eq_true hn) (v b);simp only [hd];exact h b hI _ _ ⟨s2.size,s2.agree,s2.defers,hm⟩)
theorem Al4 {β γ:Type} {o:Oper} {f:FuncId} {args:Array Value} {v:β→Value} {nw:β→Blks} {I:β→Prop} {mis:Int→Value} {kk:γ→Int} {np:γ→Blks} {J:γ→Prop} (hi:IsCall P r o f args) (hg:guardB ops r o.guard=some true) (hd:o.dst=some d) (hn:Nat.ble (d + 1) n=true)
    (hc:∀ w,Mem W chg news w→Calls P f args w (GrowT W chg v nw I mis kk np J)) (hp:∀ c,J c→RunE Q n (.panic [{ v:=mis (kk c),recovered:=false }]) r ds W chg (np c)) (h:∀ b,I b→RunL P ops Q n rest ((d,v b)::r) ds W chg (nw b)):RunL P ops Q n (o::rest) r ds W chg news :=
  RunL.call hg hd (fun a w s=>hi.runs a w s.agree) hc (fun a w e w' s hR=>by
    rcases hR with ⟨b,hI,rfl,hm⟩ | ⟨c,hJ,rfl,hm⟩
    · have s2:=s.put (Nat.le_of_ble_eq_true hn) (v b)
      exact h b hI _ _ ⟨s2.size,s2.agree,s2.defers,hm⟩
    · exact hp c hJ a w' ⟨s.size,s.agree,s.defers,hm⟩)
theorem AS4 {i:Nat} {K:Act→World→Prop} {β γ:Type} {o:Oper} {f:FuncId} {args:Array Value} {v:β→Value} {nw:β→Blks} {I:β→Prop} {mis:Int→Value} {kk:γ→Int} {np:γ→Blks} {J:γ→Prop} (ho:ops[i]? = some o) (hi:IsCall P r o f args) (hg:guardB ops r o.guard=some true) (hd:o.dst=some d) (hn:Nat.ble (d + 1) n=true)
    (hc:∀ w,Mem W chg news w→Calls P f args w (GrowT W chg v nw I mis kk np J)) (hp:∀ c,J c→RunE Q n (.panic [{ v:=mis (kk c),recovered:=false }]) r ds W chg (np c)) (h:∀ b,I b→RunK n K ((d,v b)::r) ds W chg (nw b)):RunI P ops Q n i K r ds W chg news :=
  RunI.call ho hi hg hc (fun a w e w' s hR=>by
    rcases hR with ⟨b,hI,rfl,hm⟩ | ⟨c,hJ,rfl,hm⟩
    · have s2:=s.put (Nat.le_of_ble_eq_true hn) (v b)
      simp only [hd];exact h b hI _ _ ⟨s2.size,s2.agree,s2.defers,hm⟩
    · exact hp c hJ a w' ⟨s.size,s.agree,s.defers,hm⟩)
theorem Au5 {β:Type} {fn:Func} {v:β→Value} {nw:β→Blks} {I:β→Prop} (x:β) (hx:I x) {u:Value} (hv:ResVs P r (chg++news) fn u) (he:u=v x) (hp:Pick (nw x) news):RunE (bodyPost P fn (Grow W chg v nw I)) n .ret r [] W chg news :=
  RunE.ret hv (fun _ hm=>⟨x,hx,by rw [he],hm.pick hp⟩)
theorem Ax8 {β:Type} {fn:Func} {v:β→Value} {nw:β→Blks} {I:β→Prop} (x:β) (hx:I x) {u:Value} (hv:ResVs P r (chg++news) fn u) (he:u=v x) (hp:Pick (nw x) news):RunE (bodyPost P fn (Grow W chg v nw I)) n .normal r [] W chg news :=
  Ah7 hv (fun _ hm=>⟨x,hx,by rw [he],hm.pick hp⟩)
section
variable {β γ:Type} {fn:Func} {v:β→Value} {nw:β→Blks} {I:β→Prop} {mis:Int→Value} {kk:γ→Int} {np:γ→Blks} {J:γ→Prop}
theorem Az5 (x:β) (hx:I x) {u:Value} (hv:ResVs P r (chg++news) fn u) (he:u=v x) (hp:Pick (nw x) news):RunE (bodyPost P fn (GrowT W chg v nw I mis kk np J)) n .ret r [] W chg news :=
  RunE.ret hv (fun _ hm=>.inl ⟨x,hx,by rw [he],hm.pick hp⟩)
theorem Av0 (x:β) (hx:I x) {u:Value} (hv:ResVs P r (chg++news) fn u) (he:u=v x) (hp:Pick (nw x) news):RunE (bodyPost P fn (GrowT W chg v nw I mis kk np J)) n .normal r [] W chg news :=
  Ah7 hv (fun _ hm=>.inl ⟨x,hx,by rw [he],hm.pick hp⟩)
theorem Ai0 (c:γ) (hc:J c) {k:Int} (hk:kk c=k) (hp:Pick (np c) news):RunE (bodyPost P fn (GrowT W chg v nw I mis kk np J)) n (.panic [{ v:=mis k,recovered:=false }]) r [] W chg news:=fun _ w s =>
  ⟨s.defers,.inr ⟨c,hc,by rw [hk],s.mem.pick hp⟩⟩
end
end

/-! ### The code of one function that is known -/
def wpAt (f:FuncId) (P:Program) (c:Code) (Q:Exit→Act→World→Prop) (a:Act) (w:World):Prop :=
  ∀ (b:Frame) (k:List Item) (cs:List Frame),b.roundOf=none→b.fn=f →
    ∃ e a' w',Q e a' w'∧ArrivesIn (Machine.fenced P (Fr none)) P (lone (b.atR a (.code c::k)) cs w) b k cs e a' w'
section
variable {f:FuncId} {P:Program} {Q:Exit→Act→World→Prop} {a:Act} {w:World}
theorem Cw0 {c:Code} {m:Nat} (h:c.wpIn (Fr none) m P Q a w):wpAt f P c Q a w:=fun b k cs hro _=>h b k cs hro trivial (room_wide _)
theorem Ci4 {x y:Code} (h:wpAt f P x (Exit.then (wpAt f P y Q) Q) a w):wpAt f P (.seq x y) Q a w:=by
  intro b k cs hro hb;have h0:(lone (b.atR a (.code (.seq x y)::k)) cs w).fenced P (Fr none):=fenced_calm (n:=9) trivial (room_wide _) rfl;obtain ⟨e,a₁,w₁,hq,harr⟩:=h b (.code y::k) cs hro hb
  cases e with
  | normal =>
    obtain ⟨e₂,a₂,w₂,hq₂,harr₂⟩:=hq b k cs hro hb;exact ⟨e₂,a₂,w₂,hq₂,.of_steps (.head h0 stepR_seq harr) harr₂⟩
  | exit id=>exact ⟨_,a₁,w₁,hq,.of_steps (.one h0 stepR_seq) (.pass (x:=.code y) rfl (fun _ _=>.inl (by simp)) harr)⟩
  | goto l=>exact ⟨_,a₁,w₁,hq,.of_steps (.one h0 stepR_seq) (.pass (x:=.code y) rfl (fun _ _=>.inl (by simp)) harr)⟩
  | ret=>exact ⟨_,a₁,w₁,hq,.of_steps (.one h0 stepR_seq) (.pass (x:=.code y) rfl (fun _ _=>.inl (by simp)) harr)⟩
  | panic ch=>exact ⟨_,a₁,w₁,hq,.of_steps (.one h0 stepR_seq) (.pass (x:=.code y) rfl (fun _ _=>.inl (by simp)) harr)⟩
  | outgrown=>exact ⟨_,a₁,w₁,hq,.of_steps (.one h0 stepR_seq) (.pass (x:=.code y) rfl (fun _ _=>.inl (by simp)) harr)⟩
theorem BI3 {id:Nat} {c:Code} (h:wpAt f P c (Exit.inBlock id Q) a w):wpAt f P (.block id c) Q a w:=by
  intro b k cs hro hb;have h0:(lone (b.atR a (.code (.block id c)::k)) cs w).fenced P (Fr none):=fenced_calm (n:=9) trivial (room_wide _) rfl;obtain ⟨e,a₁,w₁,hq,harr⟩:=h b (.inBlock id::k) cs hro hb
  cases e with
  | normal=>exact ⟨.normal,a₁,w₁,hq,.head h0 stepR_block (StepsIn.trans harr (.one (fenced_calm (n:=9) trivial (room_wide _) rfl) stepR_inBlock))⟩
  | exit id' =>
    by_cases hid:id'=id
    · simp only [Exit.inBlock,hid,if_true] at hq
      exact ⟨.normal,a₁,w₁,hq,.head h0 stepR_block (harr.1 k (by simp [exitTo,hid]))⟩
    · simp only [Exit.inBlock,hid,if_false] at hq
      have this:(id == id')=false:=by simp;exact fun h=>hid h.symm
      have hx:exitTo id' (.inBlock id::k)=exitTo id' k:=by simp [exitTo,this]
      exact ⟨.exit id',a₁,w₁,hq,fun k' hk=>.head h0 stepR_block (harr.1 k' (by rw [hx];exact hk)),
        fun hr' hk=>let ⟨k₁,h1,h2⟩:=harr.2 hr' (by rw [hx];exact hk);⟨k₁,h1,.head h0 stepR_block h2⟩⟩
  | goto l =>
    have hx:gotoIn l (.inBlock id::k)=gotoIn l k:=by simp [gotoIn]
    exact ⟨_,a₁,w₁,hq,fun k' hk=>.head h0 stepR_block (harr.1 k' (by rw [hx];exact hk)),
      fun hr' hk=>let ⟨k₁,h1,h2⟩:=harr.2 hr' (by rw [hx];exact hk);⟨k₁,h1,.head h0 stepR_block h2⟩⟩
  | ret=>exact ⟨_,a₁,w₁,hq,.of_steps (.one h0 stepR_block) harr⟩
  | panic ch=>exact ⟨_,a₁,w₁,hq,.of_steps (.one h0 stepR_block) harr⟩
  | outgrown=>exact ⟨_,a₁,w₁,hq,.of_steps (.one h0 stepR_block) harr⟩

def rangeEnd (f:FuncId) (P:Program) (l:Nat) (Q:Exit→Act→World→Prop) (a:Act):Ending→World→Prop
  | .returned _,w=>∃ jump w',(Instr.endLoop l).run P w = .ok jump w'∧(match jump with
    | none=>Q .normal a w'
    | some c=>wpAt f P c Q a w')
  | .panicked c,w=>Q (.panic c) a w
  | .outgrown,_=>LetsOut Q
theorem AT4 {g:Operand} {ps:Array Tmp} {assign body:Code} {l:Nat} {mark:List Deferred} {w₁ w₂ w₃:World} {d:Deferred} {gf:FuncId} {args:Array Value}
    (he:(Instr.enterLoop f a.tmps ps assign body none).run P w = .ok (l,mark) w₁) (hres:(resolve a.eval (rangeCall g l) 0).run P w₁ = .ok d w₂) (hinv:(invoke d.target d.args).run P w₂ = .ok (.enter gf args) w₃)
    (hcall:CallsIn (Fr none) 8 P gf args w₃ (rangeEnd f P l Q { a with defers:=mark++a.defers })):wpAt f P (.rangeFunc g ps assign body) Q a w:=by
  intro b k cs hro hb;rw [← hb,← hro] at he;have h0:(lone (b.atR a (.code (.rangeFunc g ps assign body)::k)) cs w).fenced P (Fr none):=fenced_lone (.inl trivial) (fun _ _=>trivial) (room_wide _);have henter:=stepR_rangeFunc (P:=P) (b:=b) (a:=a) (k:=k) (cs:=cs) (w:=w) he hres hinv;obtain ⟨e,w₄,fr,hR,hsteps,_,hleave⟩:=hcall.2 (b.atR { a with defers:=mark++a.defers } (.inRangeFunc l::k)::cs) (room_wide _)
  cases e with
  | outgrown =>
    obtain ⟨a₀,w₀,hq⟩:=hR;exact ⟨.outgrown,a₀,w₀,hq,.inr (Outgrown.of_steps (.one henter) hsteps)⟩
  | returned v =>
    have hl:(lone fr (b.atR { a with defers:=mark++a.defers } (.inRangeFunc l::k)::cs) w₄).fenced P (Fr none):=fenced_leaving (n:=9) trivial (room_wide _) hleave;obtain ⟨jump,w₅,hend,hj⟩:=hR
    have sback:StepsIn (Machine.fenced P (Fr none)) P (lone (b.atR a (.code (.rangeFunc g ps assign body)::k)) cs w) (lone (b.atR { a with defers:=mark++a.defers } ((jump.map Item.code).toList++k)) cs w₅):=by
      refine .head h0 henter (StepsIn.trans hsteps (.head hl ?_ (.one (fenced_calm (n:=9) (fr:=b.atR { a with defers:=mark++a.defers } (.endRangeFunc l::k)) trivial (room_wide _) rfl) (stepR_endRangeFunc hend))))
      rw [← finish_atR_inRangeFunc l v];exact step_leave_returned hleave
    cases jump with
    | none=>exact ⟨.normal,_,w₅,hj,sback⟩
    | some c =>
      obtain ⟨e',a'',w₆,hq,harr⟩:=hj b k cs hro hb;exact ⟨e',a'',w₆,hq,.of_steps sback harr⟩
  | panicked chain =>
    have hl:(lone fr (b.atR { a with defers:=mark++a.defers } (.inRangeFunc l::k)::cs) w₄).fenced P (Fr none):=fenced_leaving (n:=9) trivial (room_wide _) hleave;refine ⟨.panic chain,_,w₄,hR,.inRangeFunc l::k,.head h0 henter (StepsIn.trans hsteps (.one hl ?_))⟩
    rw [← Frame.raise_atR];exact step_leave_panicked hleave

/-! ### A round that may panic -/
def roundEnd (P:Program) (l:Nat) (R:Ending→World→Prop):Exit→Act→World→Prop
  | .normal,_,w=>∃ v w',(Instr.endRound l none).run P w = .ok v w'∧R (.returned v) w'
  | .ret,_,w=>∃ v w',(Instr.endRound l (some .ret)).run P w = .ok v w'∧R (.returned v) w'
  | .exit id,_,w=>∃ v w',(Instr.endRound l (some (.exit id))).run P w = .ok v w'∧R (.returned v) w'
  | .panic c,a,w=>a.defers=[]∧R (.panicked c) w
  | _,_,_=>False
theorem Ck4 {l m:Nat} {tmps:Array Value} {assign body:Code} {R:Ending→World→Prop} {fn0:Func} (hfn:P.funcs[f]? = some fn0)
    (h:assign.wpIn (Fr (some l)) 9 P (Exit.then (fun a₁ w₁=>∃ w₂,(Instr.beginRound l).run P w₁ = .ok () w₂∧body.wpIn (Fr (some l)) 9 P (roundEnd P l R) a₁ w₂) (fun _ _ _=>False)) { tmps:=tmps,defers:=[] } w) :
    RoundIn (Fr none) m P l f tmps assign body w R:=by
  refine ⟨trivial,fun c cs _=>?_⟩
  let b:Frame:={ (default:Frame) with fn:=f,kind:=.normal,roundOf:=some l }
  have hb0:Frame.round l f tmps assign body .normal=b.atR { tmps:=tmps,defers:=[] } [.code assign,.beginRound,.code body]:=by
    simp [Frame.round,Frame.atR,b]
  obtain ⟨e,a₁,w₁,hq,harr⟩:=h b [.beginRound,.code body] (c::cs) rfl trivial (room_wide _);rw [← hb0] at harr
  cases e with
  | normal =>
    obtain ⟨w₂,hbr,hbody⟩:=hq
    have s1:StepsIn (Machine.fenced P (Fr (some l))) P (lone (b.atR a₁ [.beginRound,.code body]) (c::cs) w₁) (lone (b.atR a₁ [.code body]) (c::cs) w₂) :=
      .one (fenced_calm (n:=9) (fr:=b.atR a₁ [.beginRound,.code body]) trivial (room_wide _) rfl) (stepR_beginRound rfl hbr)
    obtain ⟨e₂,a₂,w₃,hq₂,harr₂⟩:=hbody b [] (c::cs) rfl trivial (room_wide _)
    cases e₂ with
    | normal =>
      obtain ⟨v,w₄,hend,hR⟩:=hq₂;exact ⟨.returned v,w₄,hR,(StepsIn.trans harr s1).trans (StepsIn.trans harr₂ (.one (fenced_calm (n:=9) (fr:=b.atR a₂ []) trivial (room_wide _) rfl) (stepR_round_end rfl rfl hend)))⟩
    | ret =>
      obtain ⟨v,w₄,hend,hR⟩:=hq₂;obtain ⟨k₁,hs⟩:=harr₂.2 rfl;exact ⟨.returned v,w₄,hR,(StepsIn.trans harr s1).trans (StepsIn.trans hs (.one (fenced_calm (n:=9) (fr:=b.atR a₂ (.code .ret::k₁)) trivial (room_wide _) rfl) (stepR_round_ret rfl rfl hend)))⟩
    | exit id =>
      obtain ⟨v,w₄,hend,hR⟩:=hq₂;obtain ⟨k₁,hk,hs⟩:=harr₂.2 rfl rfl;exact ⟨.returned v,w₄,hR,(StepsIn.trans harr s1).trans (StepsIn.trans hs (.one (fenced_calm (n:=9) (fr:=b.atR a₂ (.code (.exit id)::k₁)) trivial (room_wide _) rfl) (stepR_round_exit rfl rfl hk hend)))⟩
    | goto t=>exact hq₂.elim
    | panic chain =>
      obtain ⟨hd,hR⟩:=hq₂;obtain ⟨todo,hs⟩:=harr₂;have hl:({ b.atR a₂ todo with mode:=.panicking chain }:Frame).leaving P w₃ (.panicked chain):=⟨rfl,hd,fn0,hfn⟩;exact ⟨.panicked chain,w₃,hR,(StepsIn.trans harr s1).trans (StepsIn.trans hs (.one (fenced_leaving (n:=9) trivial (room_wide _) hl) (step_leave_panicked hl)))⟩
    | outgrown=>exact hq₂.elim
  | exit id=>exact hq.elim
  | goto t=>exact hq.elim
  | ret=>exact hq.elim
  | panic chain=>exact hq.elim
  | outgrown=>exact hq.elim
end
end Go.Eng
/- The engine: ranges over functions whose rounds may panic: the iterator's contract, the loop, leaving. No program is in sight. -/
namespace Go.Eng
open Go Go.RowKit
def SeqQ {α:Type} (P:Program) (gf:FuncId) (lb:Array Value) (encs:α→List Value) (eb:α→Blks) (itb:Blks) (mis:Int→Value) (S Sp:List α→Prop) (Sq:Int→List α→Prop) (N:Nat) (W0:World):Prop :=
  ∀ {X:Type} (l:Nat) (U:X→Blks) (I:List α→X→Prop) (Ix:X→Prop) (Ip:List PanicEntry→X→Prop) (rest:Blks) (w:World) (x0:X),
    (∀ pre v x tl w1,I pre x→Sp (pre++[v])→pre.length < N→Mem W0 [] (eb v++(U x++tl)) w1→YieldAt (Fr none) 8 P l (encs v).toArray w1 fun e w'=>∃ x',Mem W0 [] (U x'++tl) w'∧((e = .returned (.bool true)∧I (pre++[v]) x')∨(e = .returned (.bool false)∧Ix x')∨(∃ c,e = .panicked c∧Ip c x'))) →
    I [] x0→Mem W0 [] (U x0++(itb++rest)) w →
    CallsIn (Fr none) 8 P gf (#[.func (.yield l) #[] #[]]++lb) w fun e w'=>∃ x',Mem W0 [] (U x'++rest) w' ∧
      ((∃ v,e = .returned v∧((∃ xs,S xs∧I xs x')∨Ix x'))∨(∃ c,e = .panicked c∧Ip c x')∨(∃ k xs,e = .panicked [{ v:=mis k,recovered:=false }]∧Sq k xs∧I xs x'))
section
variable {f:FuncId} {ro:Option Nat} {P:Program} {ops:Array Oper} {Q:Exit→Act→World→Prop} {n:Nat} {r:Regs} {ds:List Deferred} {W:World} {chg news:Blks} {rest:List Oper} {d:Nat}
def RunCF (f:FuncId) (P:Program) (Q:Exit→Act→World→Prop) (n:Nat) (c:Code) (r:Regs) (ds:List Deferred) (W:World) (chg news:Blks):Prop:=∀ a w,St n r ds W chg news a w→wpAt f P c Q a w
theorem Ak7 {c:Code} (h:RunC P Q n c r ds W chg news):RunCF f P Q n c r ds W chg news:=fun a w s=>Cw0 (wpIn_wide (n:=9) |>.2 (h a w s))
theorem RunCF.seq {x y:Code} (h:RunCF f P (Exit.then (wpAt f P y Q) Q) n x r ds W chg news):RunCF f P Q n (.seq x y) r ds W chg news:=fun a w s=>Ci4 (h a w s)
theorem RunCF.block {id:Nat} {c:Code} (h:RunCF f P (Exit.inBlock id Q) n c r ds W chg news):RunCF f P Q n (.block id c) r ds W chg news:=fun a w s=>BI3 (h a w s)
theorem RunEF.next {y:Code} {Q':Exit→Act→World→Prop} (h:RunCF f P Q n y r ds W chg news):RunE (Exit.then (wpAt f P y Q) Q') n .normal r ds W chg news:=fun a w s=>h a w s
theorem AF1 {fn:Func} {c:Code} {vs:List Value} {R:Ending→World→Prop} {w:World} (hm:Mem W chg news w) (hf:P.funcs[f]? = some fn) (hb:fn.body=some c) (hn:Nat.ble vs.length fn.ntmps=true)
    (h:RunCF f P (bodyPostM Fence.wide 9 P fn R) fn.ntmps c (args0 0 vs) [] W chg news):Calls P f vs.toArray w R:=by
  have s0:=Av2 (Nat.le_of_ble_eq_true hn) (Mem.refl w) (vs:=vs);have h2:=h _ _ ⟨s0.size,s0.agree,s0.defers,hm⟩;refine (callsIn_wide (n:=9)).1 ⟨trivial,fun cs hr=>?_⟩
  let b:Frame:={ (default:Frame) with fn:=f,kind:=.normal,roundOf:=none }
  have henter:Frame.enter P f vs.toArray .normal=b.atR { tmps:=vs.toArray++Array.replicate (fn.ntmps - vs.toArray.size) undef,defers:=[] } [.code c]:=by
    simp [Frame.enter,Frame.atR,hf,hb,b]
  obtain ⟨e,a',w',hq,harr⟩:=h2 b [] cs rfl rfl;rw [← henter] at harr
  cases e with
  | normal =>
    obtain ⟨e',w'',fr',hR,hs,hfn,hl⟩:=leaves_stepsInM (F:=Fence.wide) (n:=9) a'.defers .returning w' { b.atR a' [] with mode:=.returning } cs rfl rfl rfl hf rfl trivial hr hq;exact ⟨e',w'',fr',hR,ComesIn.of_steps (StepsIn.trans harr (.one (fenced_calm (n:=9) (fr:=b.atR a' []) trivial hr rfl) (stepR_end rfl))) hs,hfn,hl⟩
  | ret =>
    obtain ⟨todo,hs₀⟩:=harr.1 rfl;obtain ⟨e',w'',fr',hR,hs,hfn,hl⟩:=leaves_stepsInM (F:=Fence.wide) (n:=9) a'.defers .returning w' { b.atR a' todo with mode:=.returning } cs rfl rfl rfl hf rfl trivial hr hq;exact ⟨e',w'',fr',hR,ComesIn.of_steps hs₀ hs,hfn,hl⟩
  | panic chain =>
    obtain ⟨todo,hs₀⟩:=harr;obtain ⟨e',w'',fr',hR,hs,hfn,hl⟩:=leaves_stepsInM (F:=Fence.wide) (n:=9) a'.defers (.panicking chain) w' { b.atR a' todo with mode:=.panicking chain } cs rfl rfl rfl hf rfl trivial hr hq;exact ⟨e',w'',fr',hR,ComesIn.of_steps hs₀ hs,hfn,hl⟩
  | exit id=>exact hq.elim
  | goto l=>exact hq.elim
  | outgrown=>exact ⟨.outgrown,w',b,hq,harr.resolve_left (by simp [b]),rfl,trivial⟩

theorem Bk2 {m k l:Nat} {fn:FuncId} {tmps:Array Value} {assign body:Code} {w:World} {R:Ending→World→Prop} {ro':Option Nat} (h:RoundIn (Fr ro) m P l fn tmps assign body w R):RoundIn (Fr ro') k P l fn tmps assign body w R:=by
  refine ⟨trivial,fun c cs _=>?_⟩
  obtain ⟨e,w',h1,h2⟩:=h.2 c cs (by cases ro <;> exact room_wide _);have e1:Machine.fenced P (Fr ro)=Machine.fenced P (Fr ro'):=by cases ro <;> cases ro' <;> rfl
  rw [e1] at h2;exact ⟨e,w',h1,h2⟩
theorem Ap6 {β γ:Type} {o:Oper} {l:Nat} {args:Array Value} {v:β→Value} {nw:β→Blks} {I:β→Prop} {cc:γ→List PanicEntry} {np:γ→Blks} {J:γ→Prop} (hi:IsYield P r o l args) (hg:guardB ops r o.guard=some true) (hd:o.dst=some d) (hn:Nat.ble (d + 1) n=true)
    (hy:∀ w,Mem W chg news w→YieldAt (Fr none) 8 P l args w fun e w'=>(∃ b,I b∧e = .returned (v b)∧Mem W chg (nw b) w')∨(∃ c,J c∧e = .panicked (cc c)∧Mem W chg (np c) w'))
    (hp:∀ c,J c→RunE Q n (.panic (cc c)) r ds W chg (np c)) (h:∀ b,I b→RunLR ro P ops Q n rest ((d,v b)::r) ds W chg (nw b)) (hnd:notDefer o=true:=by rfl):RunLR ro P ops Q n (o::rest) r ds W chg news:=fun a w s =>
  Am9 (Ae3 s.agree hg) hnd fun K hK=>by
    obtain ⟨fn,tmps,assign,body,hy1,hy2⟩:=hy w s.mem;rw [hi.runs a w s.agree,hy1,Oper.uponIn_round];refine ⟨fun h=>(by cases ro <;> cases h),(Bk2 hy2).mono ?_⟩
    rintro e w' (⟨b,hb,rfl,hm⟩ | ⟨c,hc,rfl,hm⟩)
    · show K _ _
      rw [hd];have s2:=s.put (Nat.le_of_ble_eq_true hn) (v b);exact hK _ _ (h b hb _ _ ⟨s2.size,s2.agree,s2.defers,hm⟩)
    · exact hp c hc a w' ⟨s.size,s.agree,s.defers,hm⟩

/-! ### The loop -/
def recO (fn:FuncId) (tmps:Array Value) (ps:Array Tmp) (assign body:Code) (D:Nat) (st:LoopState) (pe:Option Code):Obj:=.loop { state:=st,pending:=pe,fn,tmps,params:=ps,assign,body,defers:=D }
def dfrO:Obj:=.deferred (some [])
theorem Mem.put {w:World} {l:Nat} {o:Obj} (o':Obj) (h:Mem W chg ((l,o)::news) w):Mem W chg ((l,o')::news) (w.putObj l o') :=
  h.upd_new .here rfl rfl rfl (by simp [World.putObj]) (fun k _ hk=>World.putObj_heap_other hk) (World.putObj_heap_same (lt_of_block (h.newd _ _ (List.mem_cons_self ..)).2))
def BodyQ2 {X:Type} (W:World) (l:Nat) (ro:Obj) (Dd:Nat×Obj) (U:X→Blks) (tl:Blks) (Iv:X→Prop) (Stp:Code→X→Prop) (Pan:List PanicEntry→X→Prop):Exit→Act→World→Prop
  | .normal,_,w=>∃ x,Iv x∧Mem W [] ((l,ro)::Dd::(U x++tl)) w
  | .ret,_,w=>∃ x,Stp .ret x∧Mem W [] ((l,ro)::Dd::(U x++tl)) w
  | .exit id,_,w=>∃ x,Stp (.exit id) x∧Mem W [] ((l,ro)::Dd::(U x++tl)) w
  | .panic c,a,w=>a.defers=[]∧∃ x,Pan c x∧Mem W [] ((l,ro)::Dd::(U x++tl)) w
  | _,_,_=>False
section
variable {X:Type} {l:Nat} {ro:Obj} {Dd:Nat×Obj} {U:X→Blks} {tl:Blks} {Iv:X→Prop} {Stp:Code→X→Prop} {Pan:List PanicEntry→X→Prop}
theorem Af9 (x:X) (hx:Iv x) (hp:Pick ((l,ro)::Dd::(U x++tl)) news):RunE (BodyQ2 W l ro Dd U tl Iv Stp Pan) n .normal r ds W [] news:=fun _ _ s=>⟨x,hx,s.mem.pick hp⟩
theorem Ah8 (x:X) (hx:Stp .ret x) (hp:Pick ((l,ro)::Dd::(U x++tl)) news):RunE (BodyQ2 W l ro Dd U tl Iv Stp Pan) n .ret r ds W [] news:=fun _ _ s=>⟨x,hx,s.mem.pick hp⟩
theorem Ag1 {c:List PanicEntry} (x:X) (hx:Pan c x) (hp:Pick ((l,ro)::Dd::(U x++tl)) news):RunE (BodyQ2 W l ro Dd U tl Iv Stp Pan) n (.panic c) r [] W [] news:=fun _ _ s=>⟨s.defers,x,hx,s.mem.pick hp⟩
end
theorem RunCF.range {α X:Type} {g:Operand} {gf p q id N:Nat} {lb:Array Value} {enc:α→Value} {eb:α→Blks} {itb:Blks} {mis:Int→Value} {S Sp:List α→Prop} {Sq:Int→List α→Prop} {oA:Oper} {body:Code} {fn0:Func} (hf0:P.funcs[f]? = some fn0)
    (U:X→Blks) (Iv:List α→X→Prop) (Stp:Code→X→Prop) (Pan:List PanicEntry→X→Prop) (x0:X) (i0:Iv [] x0) (rst:Blks) (hn:Pick (U x0++(itb++rst)) news)
    (hg:rev r g=some (.func (.func gf) #[] lb)) (he:Enters P gf) (hseq:SeqQ P gf lb (fun x=>[enc x]) eb itb mis S Sp Sq N W)
    (hp:Nat.ble (p + 1) n=true) (hq:Nat.ble (q + 1) n=true) (hA:∀ v,pureV ((p,v)::r) oA.op=some v) (hAg:oA.guard=none) (hAd:oA.dst=some q) (hAn:notDefer oA=true)
    (hbody:∀ l D ob pre v x tl,Iv pre x→Sp (pre++[v])→pre.length < N→RunCR (some l) P (BodyQ2 W l ob (D,dfrO) U tl (Iv (pre++[v])) Stp Pan) n body ((q,enc v)::(p,enc v)::r) [] W [] ((l,ob)::(D,dfrO)::(eb v++(U x++tl))))
    (hdone:∀ D xs x,S xs→Iv xs x→RunE Q n .normal r ({ target:=.collected D,args:=#[] }::ds) W [] ((D,dfrO)::(U x++rst)))
    (hstop:∀ D c x,Stp c x→RunCF f P Q n c r ({ target:=.collected D,args:=#[] }::ds) W [] ((D,dfrO)::(U x++rst)))
    (hpan:∀ D c x,Pan c x→RunE Q n (.panic c) r ({ target:=.collected D,args:=#[] }::ds) W [] ((D,dfrO)::(U x++rst)))
    (hown:∀ D k xs x,Sq k xs→Iv xs x→RunE Q n (.panic [{ v:=mis k,recovered:=false }]) r ({ target:=.collected D,args:=#[] }::ds) W [] ((D,dfrO)::(U x++rst))) :
    RunCF f P Q n (.rangeFunc g #[p] (.region id #[oA] false) body) r ds W [] news:=fun a w s=>by
  have hm:=s.mem.pick hn;obtain ⟨rc,hrc⟩:∃ rc:LoopState→Option Code→Obj,rc=recO f a.tmps #[p] (.region id #[oA] false) body w.heap.size:=⟨_,rfl⟩;obtain ⟨W1,hW1⟩:∃ W1,(w.alloc dfrO).alloc (rc .ready none)=W1:=⟨_,rfl⟩
  have hm1:Mem W [] ((w.heap.size + 1,rc .ready none)::(w.heap.size,dfrO)::(U x0++(itb++rst))) W1:=by
    have h1:=(hm.alloc dfrO).alloc (rc .ready none);rw [hW1] at h1;simpa using h1
  refine AT4 (l:=w.heap.size + 1) (mark:=[{ target:=.collected w.heap.size,args:=#[] }]) (w₁:=W1) (w₂:=W1) (w₃:=W1) (d:={ target:=.fn (.func gf) lb,args:=#[.func (.yield (w.heap.size + 1)) #[] #[]] }) (gf:=gf) (args:=#[.func (.yield (w.heap.size + 1)) #[] #[]]++lb) ?_ ?_ ?_ ?_
  · rw [← hW1,hrc];exact run_enterLoop_outer _ _ _ _ _
  · simp only [resolve,s.agree.eval hg]
    simp [go_sem]
  · simp [invoke,go_sem,he _ _]
  have hU:∀ (D:Nat) (ob:Obj) (x:X) (tl:Blks) (w':World),Mem W [] ((w.heap.size + 1,ob)::(D,dfrO)::(U x++tl)) w'→Mem W [] ((D,dfrO)::(U x++tl)) w':=fun D ob x tl w' h=>h.fewer (List.sublist_cons_self _ _)
  refine (hseq (X:=X×LoopState×Option Code) (w.heap.size + 1) (fun y=>(w.heap.size + 1,rc y.2.1 y.2.2)::(w.heap.size,dfrO)::U y.1) (fun pre y=>Iv pre y.1∧y.2=(.ready,none)) (fun y=>∃ c,Stp c y.1∧y.2=(.done,some c)) (fun c y=>Pan c y.1∧y.2=(.busy,none)) rst W1 (x0,.ready,none) ?_ ⟨i0,rfl⟩ (by simpa using hm1)).mono ?_
  · rintro pre v ⟨x,st⟩ tl w1 ⟨hI,rfl⟩ hsp hlen hmem0
    have hmem:Mem W [] ((w.heap.size + 1,rc .ready none)::(w.heap.size,dfrO)::(eb v++(U x++tl))) w1:=hmem0.pick (Pick.cnt fun z=>by simp only [List.cons_append,List.count_append,List.count_cons];omega);have hl:w1.heap[w.heap.size + 1]? = some (rc .ready none):=(hmem.newd _ _ (List.mem_cons_self ..)).2;rw [hrc] at hl;have hy:=run_yield (P:=P) (args:=#[enc v]) hl rfl;refine ⟨f,_,_,_,hy,Ck4 hf0 ?_⟩
    have hsz:p < a.tmps.size:=by rw [s.size];exact Nat.le_of_ble_eq_true hp
    have hsz2:q < a.tmps.size:=by rw [s.size];exact Nat.le_of_ble_eq_true hq
    have hag:Agree (({ tmps:=a.tmps,defers:=[] }:Act).put (some p) (enc v)) ((p,enc v)::r):=Agree.put (a:={ tmps:=a.tmps,defers:=[] }) (fun t u ht=>s.agree t u ht) hsz;have hag2:=hag.put (d:=q) (v:=enc v) (by simp [Act.put];exact hsz2);refine wpIn_region_lit (l:=[oA]) (wpListIn_plain hAg fun K2 hK2=>?_)
    refine ⟨fun _ _=>trivial,?_⟩
    rw [Oper.semAt_eq _ _ _ (An7 hAn)];have hrun:=AB6 (P:=P) (o:=oA) hag (hA (enc v)) w1;have e2:(({ tmps:=a.tmps,defers:=[] }:Act).put (some p) (enc v))={ tmps:=(#[p].zip #[enc v]).foldl (fun t (pv:Nat×Value)=>t.setIfInBounds pv.1 pv.2) a.tmps,defers:=[] }:=by simp [Act.put]
    rw [e2] at hrun;rw [hrun,Oper.uponIn_value,hAd];refine hK2 _ _ ?_;refine ⟨_,run_beginRound hl rfl,?_⟩
    rw [← hrc] at hl;have hm2:=hmem.put (recO f a.tmps #[p] (.region id #[oA] false) body w.heap.size .busy none);rw [← hrc] at hm2;have eb:(Obj.loop { state:=.busy,pending:=none,fn:=f,tmps:=a.tmps,params:=#[p],assign:=.region id #[oA] false,body:=body,defers:=w.heap.size })=rc .busy none:=by rw [hrc];rfl
    have hb:=hbody (w.heap.size + 1) w.heap.size (rc .busy none) pre v x tl hI hsp hlen _ _ ⟨by simp [Act.put,s.size],hag2,rfl,hm2⟩;rw [e2] at hb;rw [eb];refine wpIn_mono (As8 hb) ?_
    have fin:∀ (jump:Option Code) (x':X) (w3:World),Mem W [] ((w.heap.size + 1,rc .busy none)::(w.heap.size,dfrO)::(U x'++tl)) w3 →
        (Instr.endRound (w.heap.size + 1) jump).run P w3 = .ok (.bool jump.isNone) (w3.putObj (w.heap.size + 1) (rc (if jump.isNone then .ready else .done) jump)) ∧
        Mem W [] ((w.heap.size + 1,rc (if jump.isNone then .ready else .done) jump)::(w.heap.size,dfrO)::(U x'++tl)) (w3.putObj (w.heap.size + 1) (rc (if jump.isNone then .ready else .done) jump)):=fun jump x' w3 h3=>by
      have hl3:w3.heap[w.heap.size + 1]? = some (rc .busy none):=(h3.newd _ _ (List.mem_cons_self ..)).2;rw [hrc] at hl3;have h4:=run_endRound (P:=P) jump hl3;refine ⟨by rw [h4,hrc];rfl,h3.put _⟩
    rintro e a3 w3 hq3
    cases e with
    | normal =>
      obtain ⟨x',hx',h3⟩:=hq3;obtain ⟨h4,h5⟩:=fin none x' w3 h3;exact ⟨_,_,h4,(x',.ready,none),h5,.inl ⟨rfl,hx',rfl⟩⟩
    | ret =>
      obtain ⟨x',hx',h3⟩:=hq3;obtain ⟨h4,h5⟩:=fin (some .ret) x' w3 h3;exact ⟨_,_,h4,(x',.done,some .ret),h5,.inr (.inl ⟨rfl,.ret,hx',rfl⟩)⟩
    | exit id =>
      obtain ⟨x',hx',h3⟩:=hq3;obtain ⟨h4,h5⟩:=fin (some (.exit id)) x' w3 h3;exact ⟨_,_,h4,(x',.done,some (.exit id)),h5,.inr (.inl ⟨rfl,.exit id,hx',rfl⟩)⟩
    | goto t=>exact hq3.elim
    | panic c =>
      obtain ⟨hd,x',hx',h3⟩:=hq3;exact ⟨hd,(x',.busy,none),h3,.inr (.inr ⟨c,rfl,hx',rfl⟩)⟩
    | outgrown=>exact hq3.elim
  · rintro e w2 ⟨⟨x,st⟩,hmem,hcase⟩
    have hdf:∀ {z:Exit} {w':World},Mem W [] ((w.heap.size,dfrO)::(U x++rst)) w'→St n r ({ target:=.collected w.heap.size,args:=#[] }::ds) W [] ((w.heap.size,dfrO)::(U x++rst)) { a with defers:=[{ target:=.collected w.heap.size,args:=#[] }]++a.defers } w':=fun h=>⟨s.size,s.agree,by rw [← s.defers];rfl,h⟩
    have hl0:w2.heap[w.heap.size + 1]? = some (rc st.1 st.2):=(hmem.newd _ _ (List.mem_cons_self ..)).2;rw [hrc] at hl0
    rcases hcase with ⟨v,rfl,⟨xs,hS,hI,rfl⟩ | ⟨c,hc,rfl⟩⟩ | ⟨c,rfl,hc,rfl⟩ | ⟨k,xs,rfl,hS,hI,rfl⟩
    · exact ⟨none,_,run_endLoop (P:=P) hl0 (by simp),hdone _ xs x hS hI _ _ (hdf (z:=.normal) (hmem.putNew _))⟩
    · exact ⟨some c,_,run_endLoop (P:=P) hl0 (by simp),hstop _ c x hc _ _ (hdf (z:=.normal) (hmem.putNew _))⟩
    · exact hpan _ c x hc _ _ (hdf (z:=.normal) (hU _ _ _ _ _ hmem))
    · exact hown _ k xs x hS hI _ _ (hdf (z:=.normal) (hU _ _ _ _ _ hmem))
end
section
variable {P:Program} {n:Nat} {r:Regs} {W:World} {chg news:Blks} {ty:TypeId} {pos:String} {after:Array Edge} {dst:Option Tmp} {gd:Option (Nat×Bool)}
theorem AA0 {w:World} {T e:TypeId} {k c:Nat} (hT:P.underlying T=some (.slice e)):(Op.equal T (.slice none k c) (.slice none 0 0)).run P w = .ok true w:=by
  have h:∀ d,(Op.equalIn (d + 1) T (.slice none k c) (.slice none 0 0)).run P w = .ok true w:=fun d=>by simp [Op.equalIn,run_underlying hT]
  exact h 9999
theorem Aw1 {x:Operand} {T yt e:TypeId} {k c:Nat} (hx:rev r x=some (.slice none k c)) (hT:P.underlying T=some (.slice e)) :
    Val P r W chg news { dst,op:=.binOp .eql T x (.const (.slice none 0 0)) yt,type:=ty,pos,after,guard:=gd } (.bool true) :=
  ⟨fun a w ha _=>by
    have h:=AA0 (P:=P) (w:=w) (k:=k) (c:=c) hT;simp [execOp,ha.eval hx,BigFrame.eval_const,eqGuard,binOp,h]⟩
theorem Bh4 {x:Operand} {T t t':TypeId} {v z:Value} (hx:rev r x=some (.iface t' v)) (hi:(P.underlying t).any (fun t=>match t with | .interface _=>false | _=>true)=true) (hne:Nat.beq t' t=false) (hz:zeroV P t=some z) :
    Val P r W chg news { dst,op:=.typeAssert x T t true,type:=ty,pos,after,guard:=gd } (.tuple #[z,.bool false]) :=
  ⟨fun a w ha _=>by
    have hne':¬ t'=t:=fun e=>by subst e;simp at hne
    have hzz:(zeroValue t).run P w = .ok z w:=by
      unfold zeroV at hz
      cases hi:P.info? t with
      | none=>simp [hi] at hz
      | some i=>simp [hi] at hz;simp [zeroValue,typeInfo,hi,hz]
    cases hu:P.underlying t with
    | none=>simp [hu] at hi
    | some d =>
      simp [hu] at hi
      cases d <;> simp at hi <;> simp [execOp,ha.eval hx,Instr.typeAssert,run_underlying hu,hne',hzz]⟩
end
theorem Af2 {P:Program} {ops:Array Oper} {Q:Exit→Act→World→Prop} {n d:Nat} {r:Regs} {ds:List Deferred} {W:World} {chg news:Blks} {ty:TypeId} {pos:String} {after:Array Edge} {gd:Option (Nat×Bool)} {i:Nat} {K:Act→World→Prop} {s y:Operand} {T e:TypeId} {sz by_:Nat} (A B:Blks) (x:Own) {k m c:Nat} {q:Option Addr} {xs:List Value} (ys:List Value)
    (ho:ops[i]? = some { dst:=some d,op:=.call { callee:=.builtin .append,args:=#[s,y],argTypes:=#[T,T] },type:=ty,pos,after,guard:=gd }) (hgd:guardB ops r gd=some true) (hT:apB P T=some (e,sz,by_)) (hn:news=A++(ownB e x xs++B))
    (hs:rev r s=some (ownV x k)) (hy:rev r y=some (.slice q m c)) (hx:OwnOk sz x k xs) (hl:ys.length=m * sz) (hq:q=none→m=0∧c=0)
    (hc:∀ w,Mem W chg news w→∀ j u,ys[j]? = some u→∃ ad,q=some ad∧w.cell? (ad.add j)=some u) (h1:∀ u∈ys,u.oneCell'=true) (b1:k + m≤maxLen) (b2:(k + m) * by_≤140737488355328) (hd:Nat.ble (d + 1) n=true)
    (h:∀ z,OwnOk sz z (k + m) (xs++ys)→RunK n K ((d,ownV z (k + m))::r) ds W chg (A++(ownB e z (xs++ys)++B))):RunI P ops Q n i K r ds W chg news:=fun a w st=>by
  have hm:=st.mem;rw [hn] at hm;obtain ⟨z,w',hrun,hz,hm'⟩:=Az2 (P:=P) (tt:=ty) hT hm hx hl hq (hc w st.mem) h1 b1 b2;have st2:=st.put (Nat.le_of_ble_eq_true hd) (ownV z (k + m));have hK:=h z hz _ w' ⟨st2.size,st2.agree,st2.defers,hm'⟩;have hg2:=Ae3 (o:={ dst:=some d,op:=.call { callee:=.builtin .append,args:=#[s,y],argTypes:=#[T,T] },type:=ty,pos,after,guard:=gd }) st.agree hgd;unfold wpOp;simp only [ho,hg2,if_true];refine .inl ?_;unfold Oper.wp;simp [execOp,resolve,invoke,builtin,st.agree.eval hs,st.agree.eval hy,hrun,Result.andThen]
  exact hK
theorem Ae4 {P:Program} {ops:Array Oper} {Q:Exit→Act→World→Prop} {n d:Nat} {r:Regs} {ds:List Deferred} {W:World} {chg news:Blks} {i:Nat} {K:Act→World→Prop} {β:Type} {o:Oper} {f:FuncId} {args:Array Value} {v:β→Value} {U:β→Blks} (A T:Blks) (hne:news=A++T) (ho:ops[i]? = some o) (hi:IsCall P r o f args) (hg:guardB ops r o.guard=some true) (hd:o.dst=some d) (hn:Nat.ble (d + 1) n=true)
    (hc:∀ w,Mem W chg news w→Calls P f args w (News v (fun b=>U b++[]) w)) (h:∀ b,RunK n K ((d,v b)::r) ds W chg (A++(U b++T))):RunI P ops Q n i K r ds W chg news :=
  RunI.call ho hi hg hc (fun a w e w' s hR=>by
    obtain ⟨b,rfl,hm⟩:=hR;have s2:=s.put (Nat.le_of_ble_eq_true hn) (v b);simp only [hd];refine h b _ _ ⟨s2.size,s2.agree,s2.defers,(s.mem.trans hm).pick (Pick.cnt fun x=>?_)⟩
    rw [hne];simp only [List.append_nil,List.count_append];omega)
theorem Af8 {P:Program} {f:FuncId} {args:Array Value} {w:World} {R R':Ending→World→Prop} (h:Calls P f args w R) (hr:∀ e w',R e w'→R' e w'):Calls P f args w R':=h.mono hr
end Go.Eng
/- The engine: strings that are appended to bytes; addresses that are compared, or seen as none of a type. No program is in sight. -/
namespace Go.Eng
open Go Go.RowKit
def byc (s:List UInt8):List Value:=s.map fun b=>.int .u8 (b.toNat:Int)
theorem Cf2 (s:List UInt8):(byc s).length=s.length:=by simp [byc]
theorem Bf9 (s t:List UInt8):byc (s++t)=byc s++byc t:=by simp [byc]
theorem BA2 (s:List UInt8):Lib.strCells (bs s)=byc s:=rfl
def apsB (P:Program) (T U:TypeId):Option TypeId :=
  match P.underlying U with
  | some .string=>match P.underlying T with
    | some (.slice e)=>match P.info? e with
      | some i=>match i.zero with
        | some (.int .u8 0)=>if i.size=1∧i.bytes=1 then some e else none
        | _=>none
      | none=>none
    | _=>none
  | _=>none
theorem Cg0 {P:Program} {T U e:TypeId} (h:apsB P T U=some e):P.underlying T=some (.slice e)∧P.underlying U=some .string∧∃ i,P.info? e=some i∧i.zero=some (.int .u8 0)∧i.size=1∧i.bytes=1:=by
  unfold apsB at h
  split at h
  · rename_i hU
    split at h
    · rename_i e' hu
      split at h
      · rename_i i hi
        split at h
        · rename_i hz
          split at h
          · rename_i hc
            cases h
            exact ⟨hu,hU,i,hi,hz,hc.1,hc.2⟩
          · cases h
        · cases h
      · cases h
    · cases h
  · cases h
section
variable {P:Program} {ops:Array Oper} {Q:Exit→Act→World→Prop} {n:Nat} {r:Regs} {ds:List Deferred} {W:World} {chg news:Blks} {rest:List Oper}
variable {d:Nat} {ty:TypeId} {pos:String} {after:Array Edge} {dst:Option Tmp} {gd:Option (Nat×Bool)}
theorem BA7 {T U e:TypeId} {tt:Nat} (hT:apsB P T U=some e) {A B:Blks} {x:Own} {k:Nat} {xs:List Value} (s:List UInt8) {w:World} (hm:Mem W chg (A++(ownB e x xs++B)) w) (hx:OwnOk 1 x k xs)
    (b1:k + s.length≤140737488355328) :
    ∃ y w',(Builtin.append_ #[T,U] tt #[ownV x k,.string (bs s)]).run P w = .ok (ownV y (k + s.length)) w'∧OwnOk 1 y (k + s.length) (xs++byc s)∧Mem W chg (A++(ownB e y (xs++byc s)++B)) w':=by
  obtain ⟨hu,hU,i,hi,hz,hs1,hb1⟩:=Cg0 hT;have h63:k + s.length≤maxLen:=by simp only [maxLen];omega
  have hxl:xs.length=k:=by simpa using hx.len
  have hlen:(xs++byc s).length=(k + s.length) * 1:=by rw [List.length_append,hxl,Cf2,Nat.mul_one]
  match x,hx,hm with
  | .none,hx,hm =>
    have hk:=hx.nil rfl;subst hk;obtain rfl:xs=[]:=List.eq_nil_of_length_eq_zero hxl;obtain ⟨v',w',hrun,ho,hg,hiff⟩:=Lib.run_append_own_string (P:=P) w w.heap.size T U tt e i hu hU hi hz hs1 hb1 (.slice none 0 0) 0 [] (World.ownsRow_nil w _ e 1) (bs s) (by rw [Am6];exact h63) (by rw [Am6];exact b1) (Nat.le_refl _);rw [Am6,BA2] at ho
    rcases ho.2 with ⟨rfl,h0⟩ | ⟨g,cap,cur,rfl,hge,hgb,hnc,hcm,hcs,htk⟩
    · exact ⟨none,w',hrun,⟨hlen,fun _=>h0,fun _ _ _ h=>by cases h⟩,hm.swap hg (fun b c r h=>by cases h)⟩
    · refine ⟨.some (g,cap,cur.toList.drop ((0 + s.length) * 1)),w',hrun,⟨hlen,fun h=>(by cases h),fun b c r h=>?_⟩,?_⟩
      · cases h
        refine ⟨hnc,hcm,?_⟩
        rw [← htk,List.take_append_drop];simpa using hcs
      · refine hm.swap hg (fun b c r h=>?_)
        cases h
        refine ⟨.inr hge,?_⟩
        rw [← htk,List.take_append_drop];simpa using hgb
  | .some (b,cap,r),hx,hm =>
    obtain ⟨c1,c2,c3⟩:=hx.cap b cap r rfl;have hbb:=(hm.newd b (.cells (xs++r).toArray e (0,0)) (List.mem_append_right _ (List.mem_append_left _ (by simp [ownB])))).2;have hown:w.ownsRow W.heap.size e 1 (ownV (.some (b,cap,r)) k) k xs:=hx.owns (fun b o hb=>hm.newd b o (List.mem_append_right _ (List.mem_append_left _ hb)))
    by_cases hfit:k + s.length≤cap
    · have hr:=Lib.run_append_room_string (P:=P) w T U tt e i hu hU hi hs1 b k cap (xs++r).toArray hbb (bs s) (by rw [Am6];exact hfit) (by rw [Am6];simp only [List.size_toArray];omega)
      rw [Am6,BA2] at hr;have e1:(xs++r).toArray.toList.take k=xs:=by simp [← hxl]
      rw [e1] at hr;refine ⟨.some (b,cap,((xs++r).drop (k + s.length))),_,hr,⟨hlen,fun h=>(by cases h),fun b' c' r' h=>?_⟩,?_⟩
      · cases h
        refine ⟨hfit,c2,?_⟩
        simp only [List.length_append,Cf2,List.length_drop] at c3 ⊢;omega
      · refine hm.swap (⟨rfl,rfl,rfl,by simp,fun k _ hk=>setRow_other w b k _ (fun e=>hk (by simp [ownRow,e]))⟩) (fun b' c' r' h=>?_)
        cases h
        exact ⟨.inl ⟨_,_,rfl⟩,by simpa using setRow_heap w b (xs++r).toArray (xs++byc s++(xs++r).drop (k + s.length)).toArray e _ hbb⟩
    · have holds:∀ j u,xs[j]? = some u→w.cell? ((⟨b,0,none⟩:Addr).add j)=some u:=fun j u hj=>by
        have hj':=(List.getElem?_eq_some_iff.1 hj).1;rw [add_plain,Ae6 hbb];simp [List.getElem?_append_left hj',hj]
      have hr:=Lib.run_append_grow_string (P:=P) w T U tt e i (.int .u8 0) hu hU hi hz ⟨b,0,none⟩ k cap xs (by rw [hs1];simpa using hxl) holds (bs s) (by rw [Am6];omega) (by rw [Am6];omega) (by rw [hb1,Am6];exact growslice_fits (by omega) (by omega));rw [Am6,BA2] at hr;have hge:=grownCap_ge w (k + s.length) cap e;have hcm:grownCap w (k + s.length) cap e≤maxLen:=grownCap_le_maxLen w (k + s.length) cap e h63;refine ⟨.some (w.heap.size,grownCap w (k + s.length) cap e,(Builtin.zeroCells (Value.int .u8 0).cells (grownCap w (k + s.length) cap e - (k + s.length))).toList),_,hr,⟨hlen,fun h=>(by cases h),fun b' c' r' h=>?_⟩,?_⟩
      · cases h
        refine ⟨hge,hcm,?_⟩
        have hzl:∀ m,(Builtin.zeroCells (Value.int IntKind.u8 0).cells m).toList.length=m:=fun m=>by
          have hz1:(Value.int IntKind.u8 0).cells.size=1:=rfl;rw [Array.length_toList,size_zeroCells,hz1,Nat.mul_one]
        rw [List.length_append,hlen,hzl];omega
      · refine hm.swap (⟨rfl,rfl,rfl,by simp,fun k hk _=>by first | exact heap_alloc_old w.drew _ k hk | exact heap_alloc_old w.drew _ hk⟩) (fun b' c' r' h=>?_)
        cases h
        refine ⟨.inr (Nat.le_refl _),?_⟩
        have h2:=heap_alloc_new w.drew (.cells (xs.toArray++(byc s).toArray++Builtin.zeroCells (Value.int .u8 0).cells (grownCap w (k + s.length) cap e - (k + s.length))) e)
        have e3:(xs++byc s++(Builtin.zeroCells (Value.int .u8 0).cells (grownCap w (k + s.length) cap e - (k + s.length))).toList).toArray=xs.toArray++(byc s).toArray++Builtin.zeroCells (Value.int .u8 0).cells (grownCap w (k + s.length) cap e - (k + s.length)):=by
          apply Array.ext'
          simp [List.append_assoc]
        rw [e3];exact h2
theorem Bt7 {s y:Operand} {T U e:TypeId} (A B:Blks) (x:Own) {k:Nat} {xs:List Value} (ys:List UInt8) (hT:apsB P T U=some e) (hn:news=A++(ownB e x xs++B))
    (hs:rev r s=some (ownV x k)) (hy:rev r y=some (.string (bs ys))) (hx:OwnOk 1 x k xs) (b1:k + ys.length≤140737488355328) (hd:Nat.ble (d + 1) n=true)
    (h:∀ z,OwnOk 1 z (k + ys.length) (xs++byc ys)→RunL P ops Q n rest ((d,ownV z (k + ys.length))::r) ds W chg (A++(ownB e z (xs++byc ys)++B))) :
    RunL P ops Q n ({ dst:=some d,op:=.call { callee:=.builtin .append,args:=#[s,y],argTypes:=#[T,U] },type:=ty,pos,after,guard:=none }::rest) r ds W chg news:=fun a w st =>
  wpList_plain rfl fun K hK=>by
    have hm:=st.mem;rw [hn] at hm;obtain ⟨z,w',hrun,ho,hm'⟩:=BA7 (P:=P) (tt:=ty) hT ys hm hx b1;unfold Oper.wp;simp [execOp,resolve,invoke,builtin,st.agree.eval hs,st.agree.eval hy,hrun,Result.andThen]
    refine hK _ _ (h z ho _ _ ?_)
    have st2:=st.put (Nat.le_of_ble_eq_true hd) (ownV z (k + ys.length));exact ⟨st2.size,st2.agree,st2.defers,hm'⟩
/-! ### Addresses -/
theorem AU0 {T t:TypeId} {w:World} (hT:P.underlying T=some (.pointer t)) (p:Option Addr):(Op.equal T (.pointer p) (.pointer none)).run P w = .ok p.isNone w:=by
  have h:∀ d:Nat,(Op.equalIn (d + 1) T (.pointer p) (.pointer none)).run P w = .ok p.isNone w:=fun d=>by
    cases p <;> simp [Op.equalIn,run_underlying hT]
  simp [Op.equal,Op.maxDepth,h 9999]
theorem AF5 {x:Operand} {T yt t:TypeId} {p:Option Addr} (hx:rev r x=some (.pointer p)) (hT:P.underlying T=some (.pointer t)) :
    Val P r W chg news { dst,op:=.binOp .eql T x (.const (.pointer none)) yt,type:=ty,pos,after,guard:=gd } (.bool p.isNone) :=
  ⟨fun a w ha _=>by
    have h:=AU0 (P:=P) (w:=w) hT p;simp [execOp,ha.eval hx,BigFrame.eval_const,eqGuard,binOp,h]⟩
theorem BB2 {x y:Operand} {T yt t:TypeId} {j:TypeInfo} {a:Addr} (hx:rev r x=some (.pointer (some a))) (hy:rev r y=some (.pointer (some a))) (hT:P.underlying T=some (.pointer t)) (ht:P.info? t=some j) :
    Val P r W chg news { dst,op:=.binOp .neq T x y yt,type:=ty,pos,after,guard:=gd } (.bool false) :=
  ⟨fun ac w ha _=>by
    have h:=Lib.run_neq_ptr_same (P:=P) w a hT ht
    cases y with
    | const c=>simp [execOp,ha.eval hx,ha.eval hy,BigFrame.eval_const,eqGuard,h]
    | _=>simp [execOp,ha.eval hx,ha.eval hy,eqGuard,h]⟩
theorem Bs5 {x:Operand} {S T t:TypeId} {j:TypeInfo} {b o:Nat} {cs:List Value} {T0:TypeId} {fr:Nat×Nat} (hx:rev r x=some (.pointer (some ⟨b,o,none⟩))) (hm:(b,.cells cs.toArray T0 fr)∈chg++news) (hS:P.underlying S=some (.pointer t)) (hT:P.underlying T=some .unsafePointer)
    (ht:P.info? t=some j) (hj:j.size ≠ 0) (ho:o < cs.length):Val P r W chg news { dst,op:=.convert S T x,type:=ty,pos,after,guard:=gd } (.pointer (some ⟨b,o,none⟩)) :=
  ⟨fun a w ha hm0=>by
    have h:=hm0.at hm;simp [execOp,ha.eval hx,Lib.run_to_unsafe (P:=P) w ⟨b,o,none⟩ hS hT ht hj (e:=T0) (cells:=cs.length) (by simp [World.shape?,h]) ho]⟩
theorem AV0 {x:Operand} {S T t:TypeId} {j:TypeInfo} {b o:Nat} {cs:List Value} {T0:TypeId} {fr:Nat×Nat} (hx:rev r x=some (.pointer (some ⟨b,o,none⟩))) (hm:(b,.cells cs.toArray T0 fr)∈chg++news) (hS:P.underlying S=some .unsafePointer) (hT:P.underlying T=some (.pointer t))
    (ht:P.info? t=some j) (hl:liesAt P P.depth T0 (cs.length / P.cellsOf T0) o t 1=true):Val P r W chg news { dst,op:=.convert S T x,type:=ty,pos,after,guard:=gd } (.pointer (some ⟨b,o,none⟩)) :=
  ⟨fun a w ha hm0=>by
    have h:=hm0.at hm;simp [execOp,ha.eval hx,Lib.run_from_unsafe (P:=P) w ⟨b,o,none⟩ hS hT ht (e:=T0) (cells:=cs.length) (by simp [World.shape?,h]) hl]⟩
theorem Ax5 {x:Operand} {S T:TypeId} {ks k:IntKind} {p q:Int} {u:TypeDesc} (hx:rev r x=some (.int ks p)) (hS:P.underlying S=some u) (hT:P.underlying T=some (.int k)) (hr:k.wrap p=q) :
    Val P r W chg news { dst,op:=.convert S T x,type:=ty,pos,after,guard:=gd } (.int k q) :=
  ⟨fun a w ha hm0=>by simp [execOp,ha.eval hx,convert,run_underlying hS,run_underlying hT,Conv.intToInt,hr]⟩
theorem Bh6 {x i y:Operand} {T E:TypeId} {b:Nat} {l:List (List UInt8×Value)} {a:List UInt8} {v:Value} {news':Blks} (hx:rev r x=some (.map (some b))) (hi:rev r i=some (.string (bs a))) (hy:rev r y=some v) (hu:Upd news b (mapS l) (mapS (l++[(a,v)])) news') (hT:mapSB P T=some E) (hk:sIdx l a=none) :
    Sto P r W chg news { dst,op:=.insert T x i y,type:=ty,pos,after,guard:=gd } chg news' :=
  ⟨fun ac w ha hm=>by
    have hb:=(hm.newd _ _ hu.mem).2;obtain ⟨s1,s2⟩:=Aj6 (o':=mapS (l++[(a,v)])) hb;refine ⟨{ w with heap:=w.heap.setIfInBounds b (mapS (l++[(a,v)])) },by simp [execOp,ha.eval hx,ha.eval hi,ha.eval hy,At9 hb hT hk],hm.upd_new hu rfl rfl rfl (by simp) (fun k _ hk=>s2 k hk) s1⟩⟩
theorem Bs8 {x:Operand} {T e:TypeId} {b o n:Nat} {v:Value} (hx:rev r x=some (.slice (some ⟨b,o,none⟩) n n)) (hT:slB P T=some (e,1)) (hn:0 < n) (hv:Value.slice (some ⟨b,if n=1 then o else o + 1,none⟩) (n - 1) (n - 1)=v) :
    Val P r W chg news { dst,op:=.slice T x (some (.const (.int .i64 1))) none none,type:=ty,pos,after,guard:=gd } v :=
  ⟨fun a w ha _=>by
    subst hv;unfold slB at hT
    split at hT
    · rename_i e2 hu
      cases hj:P.info? e2 with
      | none=>simp [hj] at hT
      | some j =>
        simp [hj] at hT
        obtain ⟨rfl,hj1⟩:=hT;have h4:(1:Int)≤(n:Int):=by omega
        by_cases h1:n=1
        · simp [execOp,ha.eval hx,BigFrame.eval_const,Instr.sliceAt,Instr.sureAddr,Instr.slice,Instr.sliceBounds,Instr.sliceBound,asIntOf,run_underlying hu,sizeOf,typeInfo,hj,h1,add_plain]
        · simp [execOp,ha.eval hx,BigFrame.eval_const,Instr.sliceAt,Instr.sureAddr,Instr.slice,Instr.sliceBounds,Instr.sliceBound,asIntOf,run_underlying hu,sizeOf,typeInfo,hj,h4,h1,hj1,add_plain]
    · cases hT⟩
theorem AG8 (z:Own) (k:Nat):cellsL (ownV z k)=[ownV z k]:=by cases z <;> rfl
theorem AH4 {x:Operand} {T e:TypeId} {z:Own} {k:Nat} {zs:List Value} (hp:partsV r [(0,x)]=some [(0,ownV z k)]) (hT:slB P T=some (e,1)) (hz:zeroB P e=some zs) :
    New P r W chg news { dst,op:=.buildSlice T 1 [(0,x)].toArray,type:=ty,pos,after,guard:=gd } (fun b=>.slice (some ⟨b,0,none⟩) 1 1) (.cells [ownV z k].toArray e (0,0)) :=
  New.buildSlice hp hT hz rfl rfl rfl (by simp [flatV,AG8])
theorem Bc7 (z:Own) (k:Nat):isOne (ownV z k)=true:=by cases z <;> rfl
theorem AO8 {v:Value} (hv:isOne v=true):∀ {cs:List Value} {o:Nat},o < cs.length→paste cs o [v]=some (cs.set o v)
  | [],_,h=>by simp at h
  | c::cs,0,_=>by simp only [paste,pasteN,hv,List.set_cons_zero]
  | c::cs,o + 1,h=>by simp [paste,AO8 hv (cs:=cs) (o:=o) (by simpa using h)]
theorem An1 {x y:Operand} {T T0:TypeId} {b o k:Nat} {g:Bool} {cs cs':List Value} {z:Own} {news':Blks} (hx:rev r x=some (.pointer (some ⟨b,o,none⟩))) (hy:rev r y=some (ownV z k))
    (hu:Upd news b (.cells cs.toArray T0 (0,0)) (.cells cs'.toArray T0 (0,0)) news') (hT:tyB P T=some (g,1)) (ho:Nat.blt o cs.length=true) (hp:cs.set o (ownV z k)=cs') :
    Sto P r W chg news { dst,op:=.store T x y,type:=ty,pos,after,guard:=gd } chg news' :=
  Sto.store hx hy hu hT (by rw [AG8];rfl) (by rw [AG8,← hp];exact AO8 (Bc7 z k) (by simpa using ho))
end
end Go.Eng
/- The engine: iterators' bodies; regions that draw and hand over. No program is in sight. -/
namespace Go.Eng
open Go Go.RowKit
section
variable {f:FuncId} {ro:Option Nat} {P:Program} {ops:Array Oper} {Q:Exit→Act→World→Prop} {n:Nat} {r:Regs} {ds:List Deferred} {W:World} {chg news:Blks} {d fuel:Nat} {listed:Array Bool}
theorem Al2 {fn:Func} {c:Code} {vs:List Value} {R:Ending→World→Prop} {w:World} (hm:Mem W chg news w) (hf:P.funcs[f]? = some fn) (hb:fn.body=some c) (hn:Nat.ble vs.length fn.ntmps=true)
    (h:RunCR none P (bodyPost P fn R) fn.ntmps c (args0 0 vs) [] W chg news) (m:Nat):CallsIn (Fr none) m P f vs.toArray w R:=by
  have s0:=Av2 (Nat.le_of_ble_eq_true hn) (Mem.refl w) (vs:=vs);exact callsIn_of_wp hf hb trivial (As8 (h _ _ ⟨s0.size,s0.agree,s0.defers,hm⟩)) rfl
theorem Bf7 {args:Array Value} {R:Ending→World→Prop} {w:World} {m:Nat} (h:Calls P f args w R):CallsIn (Fr none) m P f args w R:=(callsIn_wide (n:=m)).2 h
theorem Ah6 {α X:Type} {l:Nat} {encs:α→List Value} {eb:α→Blks} {U:X→Blks} {tl:Blks} {I:List α→X→Prop} {Ix:X→Prop} {Ip:List PanicEntry→X→Prop} {W0 w:World} {pre:List α} {v:α} {N':X→Blks}
    (hp:∀ x,Pick (N' x) (U x++tl)) (h:YieldAt (Fr none) 8 P l (encs v).toArray w fun e w'=>∃ x',Mem W0 [] (U x'++tl) w'∧((e = .returned (.bool true)∧I (pre++[v]) x')∨(e = .returned (.bool false)∧Ix x')∨(∃ c,e = .panicked c∧Ip c x'))) :
    YieldAt (Fr none) 8 P l (encs v).toArray w fun e w'=>(∃ b:Bool×X,(b.1=true∧I (pre++[v]) b.2∨b.1=false∧Ix b.2)∧e = .returned (.bool b.1)∧Mem W0 [] (N' b.2) w')∨(∃ c:List PanicEntry×X,Ip c.1 c.2∧e = .panicked c.1∧Mem W0 [] (N' c.2) w'):=by
  obtain ⟨fn,tmps,as0,bd,h1,h2⟩:=h;refine ⟨fn,tmps,as0,bd,h1,h2.mono ?_⟩
  rintro e w' ⟨x',hm,⟨rfl,hi⟩ | ⟨rfl,hi⟩ | ⟨c,rfl,hi⟩⟩
  · exact .inl ⟨(true,x'),.inl ⟨rfl,hi⟩,rfl,hm.pick (hp _)⟩
  · exact .inl ⟨(false,x'),.inr ⟨rfl,hi⟩,rfl,hm.pick (hp _)⟩
  · exact .inr ⟨(c,x'),hi,rfl,hm.pick (hp _)⟩
/-! ### In whatever order, and handing over -/
def RunAF (ro:Option Nat) (P:Program) (ops:Array Oper) (Q:Exit→Act→World→Prop) (n fuel:Nat) (listed:Array Bool) (r:Regs) (ds:List Deferred) (W:World) (chg news:Blks):Prop :=
  ∀ a w,St n r ds W chg news a w→wpAnyIn (Fr ro) 9 P .any ops Q fuel listed a w
def RunIF (ro:Option Nat) (P:Program) (ops:Array Oper) (Q:Exit→Act→World→Prop) (n i:Nat) (K:Act→World→Prop) (r:Regs) (ds:List Deferred) (W:World) (chg news:Blks):Prop :=
  ∀ a w,St n r ds W chg news a w→wpOpIn (Fr ro) 9 P ops Q i K a w
theorem AS9 {id:Nat} {l:List Oper} (hm:P.follows .mixedOrders=true) (h:RunAF ro P l.toArray Q n l.toArray.size (Array.replicate l.toArray.size false) r ds W chg news):RunCR ro P Q n (.region id l.toArray true) r ds W chg news:=fun a _ s =>
  wpIn_region_any hm (h a _ s.drew)
theorem RunAF.all {rs:List Nat} (hr:Region.ready .any ops listed=rs) (hne:rs ≠ []) (h:∀ i∈rs,RunIF ro P ops Q n i (wpAnyIn (Fr ro) 9 P .any ops Q fuel (listed.setIfInBounds i true)) r ds W chg news):RunAF ro P ops Q n (fuel + 1) listed r ds W chg news:=fun a w s =>
  ⟨fun h0=>absurd (hr ▸ h0) hne,fun i hi=>h i (hr ▸ hi) a w s⟩
theorem RunAF.one {i:Nat} (hr:Region.ready .any ops listed=[i]) (h:RunIF ro P ops Q n i (wpAnyIn (Fr ro) 9 P .any ops Q fuel (listed.setIfInBounds i true)) r ds W chg news):RunAF ro P ops Q n (fuel + 1) listed r ds W chg news :=
  RunAF.all hr (by simp) (fun j hj=>(List.mem_singleton.1 hj) ▸ h)
theorem RunAF.done (hr:Region.ready .any ops listed=[]) (h:RunE Q n .normal r ds W chg news):RunAF ro P ops Q n fuel listed r ds W chg news:=fun a w s=>by
  cases fuel with
  | zero=>exact ⟨hr,h a w s⟩
  | succ m=>exact ⟨fun _=>h a w s,fun i hi=>by rw [hr] at hi;cases hi⟩
theorem RunIF.of {i:Nat} {K:Act→World→Prop} (hn:noDefers ops=true) (h:RunI P ops Q n i K r ds W chg news) (hlo:∀ a w,Q .outgrown a w→False:=by exact fun _ _ h=>h):RunIF ro P ops Q n i K r ds W chg news:=fun a w s =>
  CJ8 hn (Bd0 hlo) (fun _ _ h=>h) (h a w s)
theorem Ab9 (h:RunAF ro P ops Q n fuel listed r ds W chg news):RunK n (wpAnyIn (Fr ro) 9 P .any ops Q fuel listed) r ds W chg news:=h
theorem RunIF.yieldQ {β γ:Type} {i:Nat} {K:Act→World→Prop} {o:Oper} {l:Nat} {args:Array Value} {v:β→Value} {nw:β→Blks} {I:β→Prop} {cc:γ→List PanicEntry} {np:γ→Blks} {J:γ→Prop} (ho:ops[i]? = some o) (hi:IsYield P r o l args) (hg:guardB ops r o.guard=some true) (hd:o.dst=some d) (hn:Nat.ble (d + 1) n=true)
    (hy:∀ w,Mem W chg news w→YieldAt (Fr none) 8 P l args w fun e w'=>(∃ b,I b∧e = .returned (v b)∧Mem W chg (nw b) w')∨(∃ c,J c∧e = .panicked (cc c)∧Mem W chg (np c) w'))
    (hp:∀ c,J c→RunE Q n (.panic (cc c)) r ds W chg (np c)) (h:∀ b,I b→RunK n K ((d,v b)::r) ds W chg (nw b)) (hnd:notDefer o=true:=by rfl):RunIF ro P ops Q n i K r ds W chg news:=fun a w s=>by
  unfold wpOpIn;simp only [ho];rw [if_pos (Ae3 s.agree hg)];refine ⟨fun _ _=>trivial,?_⟩
  rw [Oper.semAt_eq _ _ _ (An7 hnd)];obtain ⟨fn,tmps,assign,body,hy1,hy2⟩:=hy w s.mem;rw [hi.runs a w s.agree,hy1,Oper.uponIn_round];refine ⟨fun h=>(by cases ro <;> cases h),(Bk2 hy2).mono ?_⟩
  rintro e w' (⟨b,hb,rfl,hm⟩ | ⟨c,hc,rfl,hm⟩)
  · show K _ _
    rw [hd];have s2:=s.put (Nat.le_of_ble_eq_true hn) (v b);exact h b hb _ _ ⟨s2.size,s2.agree,s2.defers,hm⟩
  · exact hp c hc a w' ⟨s.size,s.agree,s.defers,hm⟩
/-! ### Leaving -/
theorem Ao8 {fn:Func} {R:Ending→World→Prop} {tl:List Deferred} {t:Array Value} {news2:Blks} {u:FrameMode} (hu:u ≠ .run) (hend:∀ w,Mem W chg news2 w→LeavesInM Fence.wide 9 P fn t R tl u w):∀ (Ds:List Nat) (w:World),Mem W chg (Ds.map markB++news2) w→LeavesInM Fence.wide 9 P fn t R (Ds.map markD++tl) u w
  | [],w,hm=>hend w hm
  | D::Ds,w,hm=>⟨hu,.inl ⟨D,_,rfl,run_takeDeferred (hm.newd D _ (List.mem_cons_self ..)).2,Ao8 hu hend Ds _ (hm.putNew _)⟩⟩
theorem Ba0 {fn:Func} {R:Ending→World→Prop} {c:List PanicEntry} {news2:Blks} (Ds:List Nat) (hp:Pick (Ds.map markB++news2) news) (hR:∀ w,Mem W chg news2 w→R (.panicked c) w) :
    RunE (bodyPostM Fence.wide 9 P fn R) n (.panic c) r (Ds.map markD++[]) W chg news:=fun a w s=>by
  show LeavesInM _ _ _ _ _ _ a.defers _ w
  rw [s.defers];exact Ao8 (tl:=[]) (u:=.panicking c) (by simp) (fun w hm=>by simpa [LeavesInM,LeavesIn] using hR w hm) Ds w (s.mem.pick hp)
end
end Go.Eng
/- The engine: copy; numbers put together out of bytes. No program is in sight. -/
namespace Go.Eng
open Go Go.RowKit
section
variable {P:Program} {ops:Array Oper} {Q:Exit→Act→World→Prop} {n:Nat} {r:Regs} {ds:List Deferred} {W:World} {chg news:Blks} {rest:List Oper}
variable {d:Nat} {ty:TypeId} {pos:String} {after:Array Edge} {dst:Option Tmp} {gd:Option (Nat×Bool)}
theorem RunL.copy {x y:Operand} {T e T0:TypeId} {g l cap m c:Nat} {a:Addr} {cur cs:List Value} {news':Blks} (hx:rev r x=some (.slice (some ⟨g,0,none⟩) l cap)) (hy:rev r y=some (.slice (some a) m c)) (hT:slB P T=some (e,1)) (hlm:l≤m)
    (hu:Upd news g (.cells cur.toArray T0 (0,0)) (.cells cs.toArray T0 (0,0)) news') (hl:cs.length=l) (hcur:cur.length=l) (hsrc:∀ w,Mem W chg news w→∀ j v,cs[j]? = some v→w.cell? (a.add j)=some v) (h1:∀ v∈cs,v.oneCell'=true) (hd:Nat.ble (d + 1) n=true)
    (h:RunL P ops Q n rest ((d,.int .i64 (l:Int))::r) ds W chg news') :
    RunL P ops Q n ({ dst:=some d,op:=.call { callee:=.builtin .copy,args:=#[x,y],argTypes:=#[T,T] },type:=ty,pos,after,guard:=none }::rest) r ds W chg news:=fun ac w st =>
  wpList_plain rfl fun K hK=>by
    have hb:=(st.mem.newd _ _ hu.mem).2
    obtain ⟨hu2,j,hj,hj1⟩:P.underlying T=some (.slice e)∧∃ j,P.info? e=some j∧j.size=1:=by
      unfold slB at hT
      split at hT
      · rename_i e2 hu
        cases hj:P.info? e2 with
        | none=>simp [hj] at hT
        | some j =>
          simp [hj] at hT
          obtain ⟨rfl,hj1⟩:=hT;exact ⟨hu,j,hj,hj1⟩
      · cases hT
    have hrun:=run_copy_row (P:=P) w T T ty e g 0 l cap a m c cur.toArray T0 cs hu2 (by rw [hj];simp [hj1]) hb (by rw [hl];exact (Nat.min_eq_right hlm).symm) (hsrc w st.mem) (by simp [hl,hcur]) h1
    have e1:(cur.toArray.toList.take 0++cs++cur.toArray.toList.drop (0 + cs.length)).toArray=cs.toArray:=by
      simp [hl,hcur]
    rw [e1] at hrun;unfold Oper.wp;simp [execOp,resolve,invoke,builtin,st.agree.eval hx,st.agree.eval hy,hrun,Result.andThen]
    refine hK _ _ (h _ _ ?_)
    have e2:goInt cs.length = .int .i64 (l:Int):=by rw [hl];rfl
    rw [e2];have st2:=st.put (Nat.le_of_ble_eq_true hd) (.int .i64 (l:Int));exact ⟨st2.size,st2.agree,st2.defers,st.mem.upd_new hu rfl rfl rfl (by simp) (fun k _ hk=>setRow_other w g k _ hk) (setRow_heap w g cur.toArray cs.toArray T0 _ hb)⟩
end
end Go.Eng
/- The engine: max of many numbers. -/
namespace Go.Eng
open Go
variable {P:Program} {r:Regs} {W:World} {chg news:Blks}
theorem Bm2 {k:IntKind}:∀ (qs:List Int) (p:Int),(qs.map (Value.int k)).foldlM Builtin.max2 (.int k p)=(pure (.int k (qs.foldl Max.max p)):Sem Value)
  | [],p=>rfl
  | q::qs,p=>by
    have e:(if q > p then q else p)=Max.max p q:=by rw [Int.max_def];split <;> split <;> omega
    rw [List.map_cons,List.foldlM_cons]
    show (do let s ← (pure (.int k (if q > p then q else p)):Sem Value);(qs.map (Value.int k)).foldlM Builtin.max2 s)=_
    rw [e,pure_bind,Bm2 qs];rfl
theorem BI1 {ty:TypeId} {pos:String} {after:Array Edge} {dst:Option Tmp} {gd:Option (Nat×Bool)} {x:Operand} {xs:List Operand} {ats:Array TypeId} {k:IntKind} {p:Int} {qs:List Int} (hx:rev r x=some (.int k p)) (hq:revs r xs=some (qs.map (Value.int k))) :
    Val P r W chg news { dst,op:=.call { callee:=.builtin .max,args:=(x::xs).toArray,argTypes:=ats },type:=ty,pos,after,guard:=gd } (.int k (qs.foldl Max.max p)) :=
  ⟨fun a w ha hm0=>by
    rw [BigFrame.execOp_builtin,BigFrame.builtin_max]
    have e:((x::xs).toArray.map a.eval).toList = .int k p::qs.map (Value.int k):=by
      rw [Array.toList_map]
      show a.eval x::xs.map a.eval=_
      rw [ha.eval hx,ha.evals hq]
    unfold Builtin.max_;rw [e];simp only [Bm2];rfl⟩
theorem Bd6:∀ (qs:List Int) (p:Int),p≤qs.foldl Max.max p∧∀ q∈qs,q≤qs.foldl Max.max p
  | [],p=>⟨Int.le_refl _,fun q h=>by cases h⟩
  | q::qs,p=>by
    obtain ⟨h1,h2⟩:=Bd6 qs (Max.max p q);rw [List.foldl_cons];refine ⟨by omega,fun x hx=>?_⟩
    rcases List.mem_cons.1 hx with rfl | hx
    · omega
    · exact h2 x hx
end Go.Eng
/- The engine: a region that draws its order, all of whose operations (but a forced tail) hand back values or make blocks: whatever the order, the same is known behind it. No program is in sight. -/
namespace Go.Eng
open Go Go.RowKit
structure FRow (O:Type) where
  d:Nat
  deps:List Nat
  D:List Nat
  F:List O→Value
  G:List O→Blks
def upd {O:Type} (x:Nat→O) (i:Nat) (y:O):Nat→O:=fun m=>bif Nat.beq m i then y else x m
theorem CI1 {O:Type} {x:Nat→O} {i m:Nat} {y:O} (h:m ≠ i):upd x i y m=x m:=by
  unfold upd
  have:Nat.beq m i=false:=Bool.eq_false_iff.2 fun e=>h (Nat.eq_of_beq_eq_true e)
  rw [this];rfl
theorem BP5 {O:Type} {x:Nat→O} {i:Nat} {y:O} {D:List Nat} (h:i ∉ D):D.map (upd x i y)=D.map x :=
  List.map_congr_left fun m hm=>CI1 (fun e=>h (e ▸ hm))
section
variable {O:Type}
def FRow.val (x:Nat→O) (r:FRow O):Value:=r.F (r.D.map x)
def FRow.blk (x:Nat→O) (r:FRow O):Blks:=r.G (r.D.map x)
def rowV (rows:List (FRow O)) (x:Nat→O) (j:Nat):Nat×Value:=match rows[j]? with
  | some r=>(r.d,r.val x)
  | none=>(0,undef)
def rowB (rows:List (FRow O)) (x:Nat→O) (j:Nat):Blks:=match rows[j]? with
  | some r=>r.blk x
  | none=>[]
def OpOk (P:Program) (ops:Array Oper) (n:Nat) (W:World) (chg:Blks) (r:Regs) (news:Blks) (i d:Nat) (v:O→Value) (nb:O→Blks):Prop :=
  (∃ o,ops[i]? = some o∧o.dst=some d)∧∀ (Q:Exit→Act→World→Prop) (K:Act→World→Prop) (a:Act) (w:World),a.tmps.size=n→Agree a r→Mem W chg news w→(∀ y w',Mem w [] (nb y) w'→K (a.put (some d) (v y)) w')→wpOp P ops Q i K a w
section
variable {P:Program} {ops:Array Oper} {n:Nat} {W:World} {chg:Blks} {r:Regs} {news:Blks} {i d:Nat}
theorem OpOk.val [Inhabited O] {o:Oper} {v:Value} (ho:ops[i]? = some o) (hv:Val P r W chg news o v) (hg:guardB ops r o.guard=some true) (hd:o.dst=some d):OpOk (O:=O) P ops n W chg r news i d (fun _=>v) (fun _=>[]) :=
  ⟨⟨o,ho,hd⟩,fun Q K a w hs ha hm hK=>by
    unfold wpOp;simp only [ho,Ae3 ha hg,if_true,Oper.wp,hv.run a w ha hm,Oper.upon_value,hd];exact .inl (hK default _ (Mem.refl _))⟩
theorem OpOk.new {o:Oper} {v:Nat→Value} {ob:Obj} (ho:ops[i]? = some o) (hv:New P r W chg news o v ob) (hg:guardB ops r o.guard=some true) (hd:o.dst=some d):OpOk (O:=Nat) P ops n W chg r news i d v (fun b=>[(b,ob)]) :=
  ⟨⟨o,ho,hd⟩,fun Q K a w hs ha hm hK=>by
    unfold wpOp;simp only [ho,Ae3 ha hg,if_true,Oper.wp,hv.run a w ha hm,Oper.upon_value,hd];exact .inl (hK _ _ ((Mem.refl w).alloc ob))⟩
theorem OpOk.callP [Inhabited O] {o:Oper} {f:FuncId} {args:Array Value} {v:Value} (ho:ops[i]? = some o) (hi:IsCall P r o f args) (hg:guardB ops r o.guard=some true) (hd:o.dst=some d) (hc:∀ w,Mem W chg news w→Calls P f args w (Pure v w)):OpOk (O:=O) P ops n W chg r news i d (fun _=>v) (fun _=>[]) :=
  ⟨⟨o,ho,hd⟩,fun Q K a w hs ha hm hK=>by
    unfold wpOp;simp only [ho,Ae3 ha hg,if_true,Oper.wp,hi.runs a w ha,Oper.upon_enter];refine .inl ((hc w hm).mono fun e w' hR=>?_)
    obtain ⟨rfl,hm2⟩:=hR;simp only [hd];exact hK default _ hm2⟩
end
def AllOk (P:Program) (ops:Array Oper) (n:Nat) (W:World) (chg:Blks) (r:Regs) (news:Blks) (rows:List (FRow O)):Nat→List (FRow O)→Prop
  | _,[]=>True
  | i,row::l=>(∀ x:Nat→O,OpOk P ops n W chg (row.deps.map (rowV rows x)++r) (row.deps.flatMap (rowB rows x)++news) i row.d (fun y=>row.F (row.D.map (upd x i y))) (fun y=>row.G (row.D.map (upd x i y))))∧AllOk P ops n W chg r news rows (i + 1) l
theorem AllOk.at {P:Program} {ops:Array Oper} {n:Nat} {W:World} {chg:Blks} {r:Regs} {news:Blks} {rows:List (FRow O)}:∀ {l:List (FRow O)} {i:Nat},AllOk P ops n W chg r news rows i l→∀ (j:Nat) (row:FRow O),l[j]? = some row→∀ x:Nat→O,OpOk P ops n W chg (row.deps.map (rowV rows x)++r) (row.deps.flatMap (rowB rows x)++news) (i + j) row.d (fun y=>row.F (row.D.map (upd x (i + j) y))) (fun y=>row.G (row.D.map (upd x (i + j) y)))
  | [],_,_,j,row,h=>by simp at h
  | r0::l,i,⟨h1,h2⟩,0,row,h=>by simp at h;subst h;exact h1
  | r0::l,i,⟨h1,h2⟩,j + 1,row,h=>by
    have:=AllOk.at h2 j row (by simpa using h)
    rw [show i + 1 + j=i + (j + 1) by omega] at this;exact this
/-! ### What is asked of the region's text -/
def tailB (ops:Array Oper) (k:Nat):Bool:=((masks ops.toList []).drop k).all fun m=>Nat.beq (m &&& (2 ^ k - 1)) (2 ^ k - 1)
def backB (ops:Array Oper):Bool:=(List.range ops.size).all fun j=>match ops[j]? with
  | some o=>o.after.toList.all fun e=>!Region.binds .any e || Nat.blt e.on j
  | none=>true
def edgeB (ops:Array Oper) (i m:Nat):Bool:=match ops[i]? with
  | some o=>o.after.toList.any fun e=>Region.binds .any e && Nat.beq e.on m
  | none=>false
def ascB:Nat→List Nat→Bool
  | _,[]=>true
  | lo,m::l=>Nat.ble lo m && ascB (m + 1) l
def rowsB (ops:Array Oper) (n:Nat) (rows:List (FRow O)):Nat→List (FRow O)→Bool
  | _,[]=>true
  | i,row::l=>Nat.blt row.d n && ascB 0 row.deps && (row.deps.all fun m=>Nat.blt m i && (edgeB ops i m || row.deps.any fun j=>edgeB ops i j && match rows[j]? with
      | some r=>r.deps.any (Nat.beq m)
      | none=>false)) && (row.D.all fun m=>Nat.beq m i || row.deps.any fun j=>match rows[j]? with
      | some r=>r.D.any (Nat.beq m)
      | none=>false) && (l.all fun r=>!Nat.beq r.d row.d) && rowsB ops n rows (i + 1) l
def freeOK (ops:Array Oper) (n:Nat) (rows:List (FRow O)):Bool:=Nat.ble rows.length ops.size && tailB ops rows.length && backB ops && rowsB ops n rows 0 rows
theorem BH4:∀ {l:List Nat} {lo hi:Nat},ascB lo l=true→(∀ m∈l,m < hi)→l.Sublist (List.range' lo (hi - lo))
  | [],_,_,_,_=>List.nil_sublist _
  | m::l,lo,hi,h,hm=>by
    simp only [ascB,Bool.and_eq_true] at h;have h1:lo≤m:=Nat.le_of_ble_eq_true h.1;have h2:=hm m (List.mem_cons_self ..);have ih:=BH4 h.2 (fun x hx=>hm x (List.mem_cons_of_mem _ hx))
    have e:List.range' lo (hi - lo)=List.range' lo (m - lo)++m::List.range' (m + 1) (hi - (m + 1)):=by
      have e1:hi - lo=(m - lo) + (hi - m):=by omega
      have e2:hi - m=(hi - (m + 1)) + 1:=by omega
      rw [e1,← List.range'_append (s:=lo) (m:=m - lo) (n:=hi - m) (step:=1),e2,List.range'_succ];simp only [Nat.one_mul];rw [show lo + (m - lo)=m by omega]
    rw [e];exact (ih.cons_cons m).trans (List.sublist_append_right _ _)
structure RowOk (ops:Array Oper) (n:Nat) (rows:List (FRow O)) (i:Nat) (row:FRow O):Prop where
  dn:row.d < n
  asc:ascB 0 row.deps=true
  lt:∀ m∈row.deps,m < i
  edge:∀ m∈row.deps,edgeB ops i m=true∨∃ j∈row.deps,edgeB ops i j=true∧∃ r,rows[j]? = some r∧m∈r.deps
  dD:∀ m∈row.D,m=i∨∃ j∈row.deps,∃ r,rows[j]? = some r∧m∈r.D
theorem AW2 {ops:Array Oper} {n:Nat} {rows:List (FRow O)}:∀ {l:List (FRow O)} {i:Nat},rowsB ops n rows i l=true→(∀ (j:Nat) (row:FRow O),l[j]? = some row→RowOk ops n rows (i + j) row)∧∀ (j j2:Nat) (r r2:FRow O),l[j]? = some r→l[j2]? = some r2→j ≠ j2→r.d ≠ r2.d
  | [],_,_=>⟨fun j row h=>by simp at h,fun j j2 r r2 h=>by simp at h⟩
  | r0::l,i,h=>by
    simp only [rowsB,Bool.and_eq_true,List.all_eq_true,Bool.not_eq_true',Bool.or_eq_true] at h;obtain ⟨⟨⟨⟨⟨h1,h2⟩,h3⟩,h4⟩,h5⟩,h6⟩:=h;obtain ⟨i1,i2⟩:=AW2 h6
    have hne:∀ (j:Nat) (r:FRow O),l[j]? = some r→r.d ≠ r0.d:=fun j r hr=>by
      have:=h5 r (List.mem_of_getElem? hr)
      intro e;rw [e,Nat.beq_refl] at this
      cases this
    refine ⟨fun j row hj=>?_,fun j j2 r r2 hj hj2 hd=>?_⟩
    · cases j with
      | zero =>
        simp at hj
        subst hj;refine ⟨Nat.le_of_ble_eq_true h1,h2,fun m hm=>Nat.le_of_ble_eq_true (h3 m hm).1,fun m hm=>?_,fun m hm=>?_⟩
        · rcases (h3 m hm).2 with h | h
          · exact .inl h
          · obtain ⟨j,hj,hj2⟩:=List.any_eq_true.1 h
            rw [Bool.and_eq_true] at hj2;refine .inr ⟨j,hj,hj2.1,?_⟩
            have hj3:=hj2.2
            split at hj3
            · rename_i r hr
              obtain ⟨y,hy,hy2⟩:=List.any_eq_true.1 hj3
              have:m=y:=by simpa using hy2
              subst this;exact ⟨r,hr,hy⟩
            · cases hj3
        rcases h4 m hm with h | h
        · exact .inl (by simpa using h)
        · obtain ⟨j,hj,hj2⟩:=List.any_eq_true.1 h
          split at hj2
          · rename_i r hr
            obtain ⟨y,hy,hy2⟩:=List.any_eq_true.1 hj2
            have:m=y:=by simpa using hy2
            subst this;exact .inr ⟨j,hj,r,hr,hy⟩
          · cases hj2
      | succ j =>
        have:=i1 j row (by simpa using hj)
        rw [show i + 1 + j=i + (j + 1) by omega] at this;exact this
    · cases j with
      | zero=>cases j2 with
        | zero=>exact absurd rfl hd
        | succ j2 =>
          simp at hj hj2
          subst hj;exact (hne j2 r2 hj2).symm
      | succ j=>cases j2 with
        | zero =>
          simp at hj hj2
          subst hj2;exact hne j r hj
        | succ j2=>exact i2 j j2 r r2 (by simpa using hj) (by simpa using hj2) (by omega)
/-! ### The proof -/
def unl (m:Nat) (listed:Array Bool):Nat:=(List.range m).countP fun j=>!listed.getD j true
theorem BP6 {listed:Array Bool} {i:Nat} (h0:listed.getD i true=false):∀ {m:Nat},i < m→unl m (listed.setIfInBounds i true) + 1=unl m listed
  | m + 1,h=>by
    have hlt:i < listed.size:=by
      rcases Nat.lt_or_ge i listed.size with h' | h'
      · exact h'
      · simp [Array.getElem?_eq_none h'] at h0
    have key:∀ {m:Nat},m≤i→unl m (listed.setIfInBounds i true)=unl m listed:=fun {m} hm=>by
      unfold unl;refine List.countP_congr fun j hj=>?_
      have hj2:j ≠ i:=by have:=List.mem_range.1 hj;omega
      rw [getD_set_ne true (Ne.symm hj2)]
    unfold unl;rw [List.range_succ,List.countP_append,List.countP_append]
    by_cases he:i=m
    · subst he
      have k1:=key (Nat.le_refl i);unfold unl at k1;rw [k1];have e1:(listed.setIfInBounds i true).getD i true=true:=by simp [hlt]
      simp only [List.countP_cons,List.countP_nil,e1,h0];simp
    · have ih:=BP6 h0 (m:=m) (by omega)
      unfold unl at ih;have e1:(listed.setIfInBounds i true).getD m true=listed.getD m true:=getD_set_ne true he;simp only [List.countP_cons,List.countP_nil,e1];omega
def listedK (k m:Nat):Array Bool:=(List.replicate k true++List.replicate (m - k) false).toArray
def allB (rows:List (FRow O)) (listed:Array Bool) (x:Nat→O):Blks:=(List.range rows.length).flatMap fun j=>if listed.getD j false=true then rowB rows x j else []
structure FInv (ops:Array Oper) (rows:List (FRow O)) (n:Nat) (ds:List Deferred) (W:World) (chg:Blks) (r:Regs) (news:Blks) (listed:Array Bool) (x:Nat→O) (a:Act) (w:World):Prop where
  size:a.tmps.size=n
  defers:a.defers=ds
  agree:Agree a r
  done:∀ (j:Nat) (row:FRow O),rows[j]? = some row→listed.getD j false=true→a.tmps[row.d]? = some (row.val x)
  mem:Mem W chg (allB rows listed x++news) w
  tail:∀ j,rows.length≤j→listed.getD j false=false
  lsize:listed.size=ops.size
  closed:Closed ops listed
theorem By0 {listed:Array Bool} {j:Nat} (h:j < listed.size):listed.getD j true=listed.getD j false:=by simp [h]
theorem Bc4 {q r:Regs} {t:Nat} {v:Value} (h:rget (q++r) t=some v):rget q t=some v∨rget r t=some v:=by
  induction q with
  | nil=>exact .inr h
  | cons e q ih =>
    obtain ⟨k,u⟩:=e;simp only [List.cons_append,rget] at h ⊢
    split at h
    · exact .inl h
    · exact ih h
theorem AD4:∀ {q:Regs} {t:Nat} {v:Value},rget q t=some v→(t,v)∈q
  | (k,u)::q,t,v,h=>by
    simp only [rget] at h
    split at h
    · rename_i hb
      have:=Nat.eq_of_beq_eq_true hb
      subst this
      cases h
      exact List.mem_cons_self ..
    · exact List.mem_cons_of_mem _ (AD4 h)
theorem Bq2 {g g':Nat→Blks} {i:Nat}:∀ {l:List Nat},l.Nodup→i∈l→(∀ j∈l,j ≠ i→g' j=g j)→g i=[]→(l.flatMap g').Perm (g' i++l.flatMap g)
  | j::l,hn,hi,he,h0=>by
    rw [List.nodup_cons] at hn;rw [List.flatMap_cons,List.flatMap_cons]
    by_cases hj:j=i
    · subst hj
      have e:l.flatMap g'=l.flatMap g:=by
        have:l.map g'=l.map g:=List.map_congr_left fun m hm=>he m (List.mem_cons_of_mem _ hm) (fun e=>hn.1 (e ▸ hm))
        rw [List.flatMap_def,List.flatMap_def,this]
      rw [e,h0,List.nil_append]
    · have hi2:i∈l:=by
        rcases List.mem_cons.1 hi with e | h
        · exact absurd e.symm hj
        · exact h
      have ih:=Bq2 hn.2 hi2 (fun m hm=>he m (List.mem_cons_of_mem _ hm)) h0;rw [he j (List.mem_cons_self ..) hj];exact (ih.append_left (g j)).trans (List.perm_append_comm_assoc _ _ _)
theorem Cp3 {g:Nat→Blks} {l m:List Nat} (h:l.Sublist m):(l.flatMap g).Sublist (m.flatMap g):=by
  induction h with
  | slnil=>exact List.Sublist.refl _
  | cons a _ ih=>rw [List.flatMap_cons];exact ih.trans (List.sublist_append_right _ _)
  | cons_cons a _ ih=>rw [List.flatMap_cons,List.flatMap_cons];exact ih.append_left _
section
variable {P:Program} {ops:Array Oper} {n:Nat} {W:World} {chg:Blks} {r:Regs} {news:Blks} {ds:List Deferred} {rows:List (FRow O)} {listed:Array Bool} {x:Nat→O} {a:Act} {w:World}
theorem AF0 {i m:Nat} {o:Oper} (h:edgeB ops i m=true) (ho:ops[i]? = some o):∃ e∈o.after,Region.binds .any e=true∧e.on=m:=by
  unfold edgeB at h;rw [ho] at h;obtain ⟨e,he,h2⟩:=List.any_eq_true.1 h;simp only [Bool.and_eq_true] at h2;exact ⟨e,Array.mem_def.2 he,h2.1,by simpa using h2.2⟩
theorem Cf7 (hb:backB ops=true) {j:Nat} {o:Oper} (ho:ops[j]? = some o):∀ e∈o.after,Region.binds .any e=true→e.on < j:=fun e he h2=>by
  unfold backB at hb;have h3:=List.all_eq_true.1 hb j (List.mem_range.2 (Array.getElem?_eq_some_iff.1 ho).1);rw [ho] at h3;have h4:=List.all_eq_true.1 h3 e (Array.mem_def.1 he);rw [h2] at h4;simpa using h4
theorem BR5 (ht:tailB ops rows.length=true) (hc:Closed ops listed) {j:Nat} {o:Oper} (ho:ops[j]? = some o) (hj:rows.length≤j) (hall:∀ e∈o.after,Region.binds .any e=true→listed.getD e.on false=true):∀ i < rows.length,listed.getD i false=true:=fun i hi=>by
  have hlen:(masks ops.toList []).length=ops.size:=by
    have key:∀ (l:List Oper) (acc:List Nat),(masks l acc).length=acc.length + l.length:=by
      intro l
      induction l with
      | nil=>intro acc;rfl
      | cons o l ih=>intro acc;rw [masks,ih];simp;omega
    rw [key];simp
  have hj2:=(Array.getElem?_eq_some_iff.1 ho).1;have hm:∃ m,(masks ops.toList [])[j]? = some m:=⟨_,List.getElem?_eq_getElem (by omega)⟩;obtain ⟨m,hm⟩:=hm
  have hmem:m∈(masks ops.toList []).drop rows.length:=by
    refine List.mem_of_getElem? (i:=j - rows.length) ?_;rw [List.getElem?_drop,show rows.length + (j - rows.length)=j by omega];exact hm
  have h1:=List.all_eq_true.1 ht m hmem;have h2:m &&& (2 ^ rows.length - 1)=2 ^ rows.length - 1:=by simpa using h1
  have h3:m.testBit i=true:=by
    have h4:(m &&& (2 ^ rows.length - 1)).testBit i=true:=by rw [h2,Nat.testBit_two_pow_sub_one];simpa using hi
    rw [Nat.testBit_and,Bool.and_eq_true] at h4;exact h4.1
  exact AR8 hc ho hall (by unfold afterB;simp [hm,h3])
theorem Bq8 (hrow:∀ (j:Nat) (row:FRow O),rows[j]? = some row→RowOk ops n rows j row) (hlen:rows.length≤ops.size) (hc:Closed ops listed):∀ (j:Nat) (row:FRow O),rows[j]? = some row→listed.getD j false=true→∀ m∈row.deps,listed.getD m false=true:=by
  intro j
  induction j using Nat.strongRecOn with
  | _ j ih =>
    intro row hj hl m hm;have hR:=hrow j row hj;have hjl:=(List.getElem?_eq_some_iff.1 hj).1;obtain ⟨o,ho⟩:∃ o,ops[j]? = some o:=⟨_,Array.getElem?_eq_getElem (by omega)⟩
    rcases hR.edge m hm with h1 | ⟨j',hj',h1,r',hr',hm'⟩
    · obtain ⟨e,he,hb,rfl⟩:=AF0 h1 ho
      exact hc j o ho hl e he hb
    · obtain ⟨e,he,hb,rfl⟩:=AF0 h1 ho
      exact ih e.on (hR.lt _ hj') r' hr' (hc j o ho hl e he hb) m hm'
theorem CO2 (hrow:∀ (j:Nat) (row:FRow O),rows[j]? = some row→RowOk ops n rows j row) (hlen:rows.length≤ops.size) (hc:Closed ops listed):∀ (j:Nat) (row:FRow O),rows[j]? = some row→listed.getD j false=true→∀ m∈row.D,listed.getD m false=true:=by
  intro j
  induction j using Nat.strongRecOn with
  | _ j ih =>
    intro row hj hl m hm;have hR:=hrow j row hj
    rcases hR.dD m hm with rfl | ⟨j',hj',r',hr',hm'⟩
    · exact hl
    · exact ih j' (hR.lt _ hj') r' hr' (Bq8 hrow hlen hc j row hj hl j' hj') m hm'
theorem FInv.step (hrow:∀ (j:Nat) (row:FRow O),rows[j]? = some row→RowOk ops n rows j row) (hdd:∀ (j j2:Nat) (r r2:FRow O),rows[j]? = some r→rows[j2]? = some r2→j ≠ j2→r.d ≠ r2.d) (hlen:rows.length≤ops.size)
    (hr:∀ t v,rget r t=some v→∀ row∈rows,row.d ≠ t) (hok:AllOk P ops n W chg r news rows 0 rows) (h:FInv ops rows n ds W chg r news listed x a w) {i:Nat} (hi:i < rows.length) (hrd:i∈Region.ready .any ops listed) {Q:Exit→Act→World→Prop} {K:Act→World→Prop}
    (hK:∀ x' a' w',FInv ops rows n ds W chg r news (listed.setIfInBounds i true) x' a' w'→K a' w'):wpOp P ops Q i K a w:=by
  obtain ⟨row,hri⟩:∃ row,rows[i]? = some row:=⟨_,List.getElem?_eq_getElem hi⟩;have hR:=hrow i row hri;obtain ⟨hun,o,ho,hall⟩:=mem_ready.1 hrd;have hsz:i < listed.size:=by rw [h.lsize];omega
  have hun':listed.getD i false=false:=by rw [← By0 hsz];exact hun
  have hdep:∀ m∈row.deps,listed.getD m false=true:=fun m hm=>by
    rcases hR.edge m hm with h1 | ⟨j',hj',h1,r',hr',hm'⟩
    · obtain ⟨e,he,hb,rfl⟩:=AF0 h1 ho
      exact hall e he hb
    · obtain ⟨e,he,hb,rfl⟩:=AF0 h1 ho
      exact Bq8 hrow hlen h.closed e.on r' hr' (hall e he hb) m hm'
  have hOk:=hok.at i row hri x;rw [Nat.zero_add] at hOk;obtain ⟨⟨o',ho',hod⟩,hrun⟩:=hOk
  have hag:Agree a (row.deps.map (rowV rows x)++r):=fun t v ht=>by
    rcases Bc4 ht with h1 | h1
    · obtain ⟨j,hj,he⟩:=List.mem_map.1 (AD4 h1)
      obtain ⟨rj,hrj⟩:∃ rj,rows[j]? = some rj:=⟨_,List.getElem?_eq_getElem (by have:=hR.lt j hj;omega)⟩;have e1:rowV rows x j=(rj.d,rj.val x):=by unfold rowV;rw [hrj]
      rw [e1] at he
      cases he
      exact h.done j rj hrj (hdep j hj)
    · exact h.agree t v h1
  have hsub:(row.deps.flatMap (rowB rows x)).Sublist (allB rows listed x):=by
    have h1:=BH4 (hi:=rows.length) hR.asc (fun m hm=>by have:=hR.lt m hm;omega);have h2:row.deps.Sublist (List.range rows.length):=by rw [List.range_eq_range'];simpa using h1
    have e:row.deps.flatMap (rowB rows x)=row.deps.flatMap fun j=>if listed.getD j false=true then rowB rows x j else []:=by
      have:row.deps.map (rowB rows x)=row.deps.map fun j=>if listed.getD j false=true then rowB rows x j else []:=List.map_congr_left fun m hm=>by rw [if_pos (hdep m hm)]
      rw [List.flatMap_def,List.flatMap_def,this]
    rw [e];exact Cp3 h2
  have hmem:Mem W chg (row.deps.flatMap (rowB rows x)++news) w:=h.mem.fewer (hsub.append_right news);refine hrun Q K a w h.size hag hmem fun y w' hw'=>?_
  have hnotD:∀ (j:Nat) (rj:FRow O),rows[j]? = some rj→listed.getD j false=true→i ∉ rj.D:=fun j rj hj hl hm=>by
    have:=CO2 hrow hlen h.closed j rj hj hl i hm
    rw [hun'] at this
    cases this
  have hclosed:=h.closed.step hrd;have hdn:row.d < a.tmps.size:=by rw [h.size];exact hR.dn
  refine hK (upd x i y) _ _ ⟨by simp [Act.put,h.size],h.defers,fun t v ht=>?_,fun j rj hj hl=>?_,?_,fun j hj=>?_,by simp [h.lsize],hclosed⟩
  · have hne:=hr t v ht row (List.mem_of_getElem? hri)
    have:=h.agree t v ht
    simp [Act.put,Array.getElem?_setIfInBounds_ne hne,this]
  · by_cases hji:j=i
    · subst hji
      rw [hri] at hj
      cases hj
      simp [Act.put,hdn,FRow.val]
    · rw [getD_set_ne false (Ne.symm hji)] at hl
      have hd2:=hdd i j row rj hri hj (Ne.symm hji);have h1:=h.done j rj hj hl;simp only [Act.put];rw [Array.getElem?_setIfInBounds_ne hd2,h1];unfold FRow.val;rw [BP5 (hnotD j rj hj hl)]
  · have h1:=h.mem.trans hw'
    refine h1.perm ?_;rw [← List.append_assoc];refine List.Perm.append_right news (List.Perm.symm ?_)
    have e1:row.G (row.D.map (upd x i y))=(fun j=>if (listed.setIfInBounds i true).getD j false=true then rowB rows (upd x i y) j else []) i:=by
      have e2:(listed.setIfInBounds i true).getD i false=true:=by simp [hsz]
      show _=if (listed.setIfInBounds i true).getD i false=true then rowB rows (upd x i y) i else []
      rw [if_pos e2];unfold rowB;rw [hri];rfl
    show (allB rows (listed.setIfInBounds i true) (upd x i y)).Perm (row.G (row.D.map (upd x i y))++allB rows listed x)
    rw [e1];unfold allB;refine Bq2 List.nodup_range (List.mem_range.2 hi) (fun j hj hne=>?_) (by show (if listed.getD i false=true then rowB rows x i else [])=[];rw [hun'];rfl)
    rw [getD_set_ne false (Ne.symm hne)]
    cases hl:listed.getD j false with
    | false=>rfl
    | true =>
      rw [if_pos rfl,if_pos rfl];unfold rowB
      cases hj2:rows[j]? with
      | none=>rfl
      | some rj =>
        show rj.G (rj.D.map (upd x i y))=rj.G (rj.D.map x)
        rw [BP5 (hnotD j rj hj2 hl)]
  · rw [getD_set_ne false (by omega)]
    exact h.tail j hj
theorem AX3 {k m:Nat} (hs:listed.size=m) (hk:k≤m) (h1:∀ j < k,listed.getD j false=true) (h2:∀ j,k≤j→listed.getD j false=false):listed=listedK k m:=by
  unfold listedK;refine Array.ext (by simp;omega) fun j hj hj2=>?_
  have e1:listed[j]=listed.getD j false:=by simp [hj]
  rw [e1];have e2:(List.replicate k true++List.replicate (m - k) false).toArray[j]=(List.replicate k true++List.replicate (m - k) false)[j]'(by simpa using hj2):=by simp
  rw [e2]
  by_cases h:j < k
  · rw [h1 j h,List.getElem_append_left (by simpa using h)]
    simp
  · rw [h2 j (by omega),List.getElem_append_right (by simpa using h)]
    simp
theorem CI2 {k m:Nat} (hk:k≤m):unl m (listedK k m)=m - k:=by
  have key:∀ d,unl (k + d) (listedK k (k + d))=d:=by
    intro d;unfold unl listedK
    have hget:∀ j < k + d,((List.replicate k true++List.replicate (k + d - k) false).toArray.getD j true)=decide (j < k):=fun j hj=>by
      simp only [Array.getD_eq_getD_getElem?,List.getElem?_toArray];rw [List.getElem?_append]
      by_cases h:j < k
      · simp [h]
      · have h3:j - k < k + d - k:=by omega
        simp [h]
        rw [List.getElem?_replicate,if_pos (by omega)];rfl
    have e:(List.range (k + d)).countP (fun j=>!(List.replicate k true++List.replicate (k + d - k) false).toArray.getD j true)=(List.range (k + d)).countP (fun j=>!decide (j < k)):=by
      refine List.countP_congr fun j hj=>?_
      rw [hget j (List.mem_range.1 hj)]
    rw [e];clear e hget
    induction d with
    | zero =>
      rw [Nat.add_zero,List.countP_eq_zero];intro j hj
      have:=List.mem_range.1 hj
      simpa using this
    | succ d ih =>
      rw [← Nat.add_assoc,List.range_succ,List.countP_append,ih];simp
  have:=key (m - k)
  rw [show k + (m - k)=m by omega] at this;exact this
def finR (rows:List (FRow O)) (x:Nat→O):Regs:=rows.map fun row=>(row.d,row.val x)
def finB (rows:List (FRow O)) (x:Nat→O):Blks:=rows.flatMap fun row=>row.blk x
theorem Bs1 (h:∀ j < rows.length,listed.getD j false=true):allB rows listed x=finB rows x:=by
  unfold allB finB
  have e:(List.range rows.length).map (fun j=>if listed.getD j false=true then rowB rows x j else [])=rows.map fun row=>row.blk x:=by
    refine List.ext_getElem (by simp) fun j h1 h2=>?_
    simp only [List.getElem_map,List.getElem_range];have hj:j < rows.length:=by simpa using h1
    rw [if_pos (h j hj)];unfold rowB;rw [List.getElem?_eq_getElem hj]
  rw [List.flatMap_def,List.flatMap_def,e]
theorem Cn9 {Q:Exit→Act→World→Prop} (hrow:∀ (j:Nat) (row:FRow O),rows[j]? = some row→RowOk ops n rows j row) (hdd:∀ (j j2:Nat) (r r2:FRow O),rows[j]? = some r→rows[j2]? = some r2→j ≠ j2→r.d ≠ r2.d) (hlen:rows.length≤ops.size) (ht:tailB ops rows.length=true) (hb:backB ops=true)
    (hr:∀ t v,rget r t=some v→∀ row∈rows,row.d ≠ t) (hok:AllOk P ops n W chg r news rows 0 rows) (hend:∀ x:Nat→O,RunB P ops Q n (ops.size - rows.length) (listedK rows.length ops.size) (finR rows x++r) ds W chg (finB rows x++news)) :
    ∀ (fuel:Nat) (listed:Array Bool) (x:Nat→O) (a:Act) (w:World),FInv ops rows n ds W chg r news listed x a w→unl ops.size listed=fuel→wpAny P .any ops Q fuel listed a w:=by
  intro fuel
  induction fuel with
  | zero =>
    intro listed x a w hI hu
    have hall:∀ j < ops.size,listed.getD j true=true:=fun j hj=>by
      unfold unl at hu
      have:=List.countP_eq_zero.1 hu j (List.mem_range.2 hj)
      simpa using this
    have h1:∀ j < rows.length,listed.getD j false=true:=fun j hj=>by rw [← By0 (by rw [hI.lsize];omega)];exact hall j (by omega)
    have he:=AX3 hI.lsize hlen h1 hI.tail;have hz:ops.size - rows.length=0:=by rw [← CI2 hlen,← he];exact hu
    have hm:=hI.mem;rw [Bs1 h1] at hm
    have:=hend x a w ⟨hI.size,fun t v h=>?_,hI.defers,hm⟩
    · rw [hz] at this;rw [he];exact this
    · rcases Bc4 h with h2 | h2
      · obtain ⟨row,hrm,he2⟩:=List.mem_map.1 (AD4 h2)
        cases he2
        obtain ⟨j,hj,rfl⟩:=List.getElem_of_mem hrm;exact hI.done j _ (List.getElem?_eq_getElem hj) (h1 j hj)
      · exact hI.agree t v h2
  | succ fuel ih =>
    intro listed x a w hI hu
    by_cases hall:∀ j < rows.length,listed.getD j false=true
    · have he:=AX3 hI.lsize hlen hall hI.tail
      have hz:ops.size - rows.length=fuel + 1:=by rw [← CI2 hlen,← he];exact hu
      have hm:=hI.mem;rw [Bs1 hall] at hm
      have:=hend x a w ⟨hI.size,fun t v h=>?_,hI.defers,hm⟩
      · rw [hz] at this;rw [he];exact this
      · rcases Bc4 h with h2 | h2
        · obtain ⟨row,hrm,he2⟩:=List.mem_map.1 (AD4 h2)
          cases he2
          obtain ⟨j,hj,rfl⟩:=List.getElem_of_mem hrm;exact hI.done j _ (List.getElem?_eq_getElem hj) (hall j hj)
        · exact hI.agree t v h2
    · have hex:∃ j,j < rows.length∧listed.getD j false=false:=by
        refine Classical.byContradiction fun hn=>hall fun j hj=>?_
        cases hv:listed.getD j false with
        | true=>rfl
        | false=>exact absurd ⟨j,hj,hv⟩ hn
      refine ⟨fun h0=>?_,fun i hi=>?_⟩
      · obtain ⟨j,hj,hv⟩:=hex
        induction j using Nat.strongRecOn with
        | _ j ihj =>
          obtain ⟨o,ho⟩:∃ o,ops[j]? = some o:=⟨_,Array.getElem?_eq_getElem (by omega)⟩
          by_cases hrd:∀ e∈o.after,Region.binds .any e=true→listed.getD e.on false=true
          · have:j∈Region.ready .any ops listed:=mem_ready.2 ⟨by rw [By0 (by rw [hI.lsize];omega)];exact hv,o,ho,hrd⟩
            rw [h0] at this
            cases this
          · have h2:∃ e∈o.after,Region.binds .any e=true∧listed.getD e.on false=false:=by
              refine Classical.byContradiction fun hn=>hrd fun e he hbe=>?_
              cases hv2:listed.getD e.on false with
              | true=>rfl
              | false=>exact absurd ⟨e,he,hbe,hv2⟩ hn
            obtain ⟨e,he,hbe,hv2⟩:=h2;have hlt:=Cf7 hb ho e he hbe;exact ihj e.on hlt (by omega) hv2
      · have hik:i < rows.length:=by
          rcases Nat.lt_or_ge i rows.length with h' | h'
          · exact h'
          · obtain ⟨_,o,ho,hall2⟩:=mem_ready.1 hi
            exact absurd (BR5 ht hI.closed ho h' hall2) hall
        refine hI.step hrow hdd hlen hr hok hik hi fun x' a' w' hI'=>ih _ x' a' w' hI' ?_
        have:=BP6 (mem_ready.1 hi).1 (m:=ops.size) (by omega)
        omega
theorem Cg6 [Inhabited O] {id:Nat} {l:List Oper} (rows:List (FRow O)) {Q:Exit→Act→World→Prop} (hm:P.follows .mixedOrders=true) (hchk:freeOK l.toArray n rows=true) (hr:((r.map (·.1)).all fun t=>rows.all fun row=>!Nat.beq row.d t)=true)
    (hok:AllOk P l.toArray n W chg r news rows 0 rows) (hend:∀ x:Nat→O,RunB P l.toArray Q n (l.toArray.size - rows.length) (listedK rows.length l.toArray.size) (finR rows x++r) ds W chg (finB rows x++news)):RunC P Q n (.region id l.toArray true) r ds W chg news:=fun a w s=>by
  refine wp_region_any hm ?_;simp only [freeOK,Bool.and_eq_true] at hchk;obtain ⟨⟨⟨h1,h2⟩,h3⟩,h4⟩:=hchk;obtain ⟨r1,r2⟩:=AW2 h4
  have hget:∀ j (d:Bool),j < l.toArray.size→(Array.replicate l.toArray.size false).getD j d=false:=fun j d hj=>by
    simp only [Array.getD_eq_getD_getElem?,Array.getElem?_replicate];rw [if_pos hj];rfl
  refine Cn9 (fun j row hj=>by have:=r1 j row hj;rwa [Nat.zero_add] at this) r2 (Nat.le_of_ble_eq_true h1) h2 h3 (fun t v ht row hrow=>?_) hok hend _ _ (fun _=>default) a _ ⟨s.size,s.defers,s.agree,fun j row hj hl=>?_,?_,fun j hj=>?_,by simp,Closed.start⟩ ?_
  · have:=List.all_eq_true.1 (List.all_eq_true.1 hr t (List.mem_map.2 ⟨_,AD4 ht,rfl⟩)) row hrow
    intro e;rw [e,Nat.beq_refl] at this
    cases this
  · exfalso
    simp only [Array.getD_eq_getD_getElem?,Array.getElem?_replicate] at hl
    split at hl <;> simp at hl
  · have e:allB rows (Array.replicate l.toArray.size false) (fun _=>default)=[]:=by
      unfold allB;rw [List.flatMap_eq_nil_iff];intro j _;rw [if_neg];simp only [Array.getD_eq_getD_getElem?,Array.getElem?_replicate]
      split <;> simp
    rw [e];exact s.mem.drew
  · simp only [Array.getD_eq_getD_getElem?,Array.getElem?_replicate]
    split <;> simp
  · unfold unl
    rw [List.countP_eq_length.2]
    · simp
    · intro j hj
      rw [hget j true (List.mem_range.1 hj)];rfl
theorem AllOk.nil {P:Program} {ops:Array Oper} {n:Nat} {W:World} {chg:Blks} {r:Regs} {news:Blks} {rows:List (FRow O)} {i:Nat}:AllOk P ops n W chg r news rows i []:=trivial
theorem AllOk.cons {P:Program} {ops:Array Oper} {n:Nat} {W:World} {chg:Blks} {r:Regs} {news:Blks} {rows:List (FRow O)} {i:Nat} {row:FRow O} {l:List (FRow O)} (h:∀ x:Nat→O,OpOk P ops n W chg (row.deps.map (rowV rows x)++r) (row.deps.flatMap (rowB rows x)++news) i row.d (fun y=>row.F (row.D.map (upd x i y))) (fun y=>row.G (row.D.map (upd x i y))))
    (hl:AllOk P ops n W chg r news rows (i + 1) l):AllOk P ops n W chg r news rows i (row::l):=⟨h,hl⟩
theorem BO3 [Inhabited O] {id:Nat} {l:List Oper} (rows:List (FRow O)) (m k fuel:Nat) {Q:Exit→Act→World→Prop} (hm:P.follows .mixedOrders=true) (hchk:freeOK l.toArray n rows=true) (hr:((r.map (·.1)).all fun t=>rows.all fun row=>!Nat.beq row.d t)=true)
    (h1:Nat.beq l.length m=true) (h2:Nat.beq rows.length k=true) (h3:Nat.beq (k + fuel) m=true)
    (hok:AllOk P l.toArray n W chg r news rows 0 rows) (hend:∀ x:Nat→O,RunB P l.toArray Q n fuel (listedK k m) (finR rows x++r) ds W chg (finB rows x++news)):RunC P Q n (.region id l.toArray true) r ds W chg news:=by
  have e1:=Nat.eq_of_beq_eq_true h1;have e2:=Nat.eq_of_beq_eq_true h2;have e3:=Nat.eq_of_beq_eq_true h3;subst e1 e2;refine Cg6 rows hm hchk hr hok fun x=>?_
  have e4:l.toArray.size - rows.length=fuel:=by simp;omega
  rw [e4];exact hend x
end
end
end Go.Eng
/- Straight lines in one step. -/
namespace Go.Eng
open Go
theorem st {p q:Prop} (k:q) (h:q→p:=by intro k;(repeat first | refine Go.Eng.vp rfl rfl rfl rfl ?_ | refine Go.Eng.RunL.nil ?_ | refine Go.Eng.RunE.next ?_ | refine Go.Eng.RunC.seq ?_ | refine Go.Eng.RunC.region ?_ | refine Go.Eng.RunC.skip ?_ | refine Go.Eng.RunC.block ?_ | refine Go.Eng.Ac0 ?_);exact k):p:=h k
theorem sv {p q:Prop} (k:q) (h:q→p:=by intro k;(repeat refine Go.Eng.vp rfl rfl rfl rfl ?_);exact k):p:=h k
section
variable {P:Program} {ops:Array Oper} {Q:Exit→Act→World→Prop} {n:Nat} {r:Regs} {ds:List Deferred} {W:World} {chg news:Blks} {rest:List Oper} {d:Nat}
theorem lv {o:Oper} {v:Value} {q:Prop} (hv:Val P r W chg news o v) (k:q) (hg:guardB ops r o.guard=some true:=by rfl) (hd:o.dst=some d:=by rfl) (hn:Nat.ble (d + 1) n=true:=by rfl)
    (h:q→RunL P ops Q n rest ((d,v)::r) ds W chg news:=by intro k;(repeat first | refine Go.Eng.vp rfl rfl rfl rfl ?_ | refine Go.Eng.RunL.nil ?_ | refine Go.Eng.RunE.next ?_ | refine Go.Eng.RunC.seq ?_ | refine Go.Eng.RunC.region ?_ | refine Go.Eng.RunC.skip ?_ | refine Go.Eng.RunC.block ?_ | refine Go.Eng.Ac0 ?_);exact k) :
    RunL P ops Q n (o::rest) r ds W chg news:=Aa0 hv hg hd hn (h k)
theorem cn {c:Operand} {x y:Code} {t:Bool} {A B:Prop} (hc:rev r c=some (.bool t)) (ht:A→RunC P Q n x r ds W chg news) (hf:B→RunC P Q n y r ds W chg news)
    (ha:t=true→A:=by intro h;(try simp only [Go.Eng.nH] at h);exact h) (hb:t=false→B:=by intro h;(try simp only [Go.Eng.nH] at h);exact h):RunC P Q n (.cond c x y) r ds W chg news:=RunC.cond hc (fun h=>ht (ha h)) fun h=>hf (hb h)
end
end Go.Eng
namespace Go.Bk
open Go Go.Eng
abbrev Str:=List UInt8
def within (n lo hi:Int):Bool:=decide (lo≤n) && decide (n≤hi)
def needX (b:Bool) (e:Int):Except Int Value:=if b then .ok (.tuple #[]) else .error e
theorem Am0 {b:Bool} {e:Int} {v:Value} (h:needX b e = .ok v):b=true∧v = .tuple #[]:=by
  cases b <;> simp [needX] at h ⊢
  exact h.symm
theorem Ai6 {b:Bool} {e k:Int} (h:needX b e = .error k):b=false∧k=e:=by
  cases b <;> simp [needX] at h ⊢
  exact h.symm
structure Sp where
  lo:Int
  hi:Int
deriving DecidableEq
def Sp.cells (s:Sp):List Value:=[.int .i64 s.lo,.int .i64 s.hi]
def spanX (s:Sp) (high:Int):Bool:=decide (0≤s.lo) && decide (s.lo≤s.hi) && decide (s.hi≤high)
structure Tr where
  dawn:Int
  fr:List Sp
  ways:List (List Sp)
  stay:List Sp
  light:List Sp
structure Ln where
  kind:Int
  card:Int
  person:Int
  slot:Int
deriving DecidableEq
def Ln.cells (l:Ln):List Value:=[.int .i64 l.kind,.int .i64 l.card,.int .i64 l.person,.int .i64 l.slot]
structure Cb where
  slots:Int
  homes:List Int
  wrong:Int
  loans:List Ln
structure Tm where
  first:Int
  upto:Int
  beyond:Int
deriving DecidableEq
def Tm.cells (t:Tm):List Value:=[.int .i64 t.first,.int .i64 t.upto,.int .i64 t.beyond]
structure Rp where
  agent:Int
  kind:Int
  first:Int
  last:Int
deriving DecidableEq
def Rp.cells (t:Rp):List Value:=[.int .i64 t.agent,.int .i64 t.kind,.int .i64 t.first,.int .i64 t.last]
structure Ry where
  terms:List Tm
  prices:List Int
  shares:List (List Int)
  reports:List Rp
  paid:List Int
structure Pt where
  size:Sp
  wide:Sp
  marks:Int
deriving DecidableEq
def Pt.cells (p:Pt):List Value:=[.int .i64 p.size.lo,.int .i64 p.size.hi,.int .i64 p.wide.lo,.int .i64 p.wide.hi,.int .i64 p.marks]
structure Ps where
  cards:List Pt
  less:Sp
  loss:Sp
/-! ## What is valid -/
def badSp (s:Sp):Bool:=!spanX s 1440
def badRow (n:Nat) (l:List Sp):Bool:=!decide (l.length=n) || l.any badSp
def tourX (t:Tr):Bool:=decide (t.fr.length≤6) && decide (t.ways.length=t.fr.length) && within t.dawn 0 1440 && !(t.ways++[t.fr,t.stay,t.light]).any (badRow t.fr.length)
def loanX (c:Cb) (l:Ln):Bool :=
  if l.kind=0∨l.kind=1 then within l.card 0 ((c.homes.length:Int) - 1) && within l.person 0 7 && decide (l.slot=0)
  else if l.kind=2 then (within l.card 0 ((c.homes.length:Int) - 1) || decide (l.card = -1)) && within l.slot 0 (c.slots - 1) && decide (l.person=0)
  else false
def idxX (l:List Int) (x:Int):Int:=if l.any (fun y=>decide (x=y)) then (l.findIdx (fun y=>decide (x=y)):Int) else -1
def homesX (c:Cb) (k:Nat):Bool:=(List.range k).all fun i=>within (c.homes.getD i 0) 0 (c.slots - 1) && decide (idxX c.homes (c.homes.getD i 0)=(i:Int))
def cabX (c:Cb):Bool:=within c.slots 1 6 && decide (c.homes.length≤5) && within c.wrong 0 12 && decide (c.loans.length≤12) && homesX c c.homes.length && !c.loans.any fun l=>!loanX c l
def sharingX (l:List Int):Bool:=(l.all fun n=>within n 0 1000) && within (l.length:Int) 1 5 && decide (l.sum=1000)
def badTm (t:Tm):Bool:=!within t.first 0 100 || !within t.beyond 0 100 || !within t.upto 0 12
def badRp (r:Ry) (x:Rp):Bool:=!within x.agent 0 ((r.terms.length:Int) - 1) || !within x.kind 0 ((r.prices.length:Int) - 1) || decide (x.first < 0) || decide (x.last < x.first) || decide (12≤x.last)
def royalX (r:Ry):Bool:=decide (r.terms.length≤4) && decide (r.paid.length=r.terms.length) && decide (r.prices.length≤4) && decide (r.shares.length=r.prices.length) && decide (r.reports.length≤20) &&
  !r.terms.any badTm && !(r.paid.any fun n=>!within n 0 1099511627776) && !(r.prices.any fun n=>!within n 0 1048576) && !(r.shares.any fun l=>!sharingX l) && !r.reports.any (badRp r)
def badPt (c:Pt):Bool:=!spanX c.size 16384 || !spanX c.wide 16384 || !within c.marks 0 1023
def printsX (p:Ps):Bool:=decide (p.cards.length≤5) && !p.cards.any badPt && spanX p.less 16384 && spanX p.loss 16384
/-! ## Texts -/
def nl:Str:=[10]
def lineS (ws:List Str):Str:=Lib.join ws [32]++nl
def spS (s:Sp):Str:=Lib.itoa s.lo++[46,46]++Lib.itoa s.hi
def wTour:Str:=[116,111,117,114]
def wFrom:Str:=[102,114,111,109]
def wWays:Str:=[119,97,121,115]
def wStay:Str:=[115,116,97,121]
def wLight:Str:=[108,105,103,104,116]
def wCab:Str:=[99,97,98,105,110,101,116]
def wHomes:Str:=[104,111,109,101,115]
def wTake:Str:=[116,97,107,101]
def wBack:Str:=[98,97,99,107]
def wLook:Str:=[108,111,111,107]
def wNone:Str:=[110,111,110,101]
def wRoyal:Str:=[114,111,121,97,108]
def wAgent:Str:=[97,103,101,110,116]
def wKind:Str:=[107,105,110,100]
def wReport:Str:=[114,101,112,111,114,116]
def rowS (w:Str) (l:List Sp):Str:=lineS (w::l.map spS)
def tourS (t:Tr):Str:=lineS [wTour,Lib.itoa t.dawn]++rowS wFrom t.fr++(t.ways.map (rowS wWays)).flatten++rowS wStay t.stay++rowS wLight t.light
def loanS (l:Ln):Str:=if l.kind=2 then (if l.card = -1 then lineS [wLook,Lib.itoa l.slot,wNone] else lineS [wLook,Lib.itoa l.slot,Lib.itoa l.card])
  else lineS [if l.kind=1 then wBack else wTake,Lib.itoa l.card,Lib.itoa l.person]
def cabS (c:Cb):Str:=lineS [wCab,Lib.itoa c.slots,Lib.itoa c.wrong]++lineS (wHomes::c.homes.map Lib.itoa)++(c.loans.map loanS).flatten
def agentS (t:Tm) (p:Int):Str:=lineS [wAgent,Lib.itoa t.first,Lib.itoa t.upto,Lib.itoa t.beyond,Lib.itoa p]
def kindS (n:Int) (l:List Int):Str:=lineS (wKind::Lib.itoa n::l.map Lib.itoa)
def reportS (x:Rp):Str:=lineS [wReport,Lib.itoa x.agent,Lib.itoa x.kind,Lib.itoa x.first,Lib.itoa x.last]
def royalS (r:Ry):Str:=lineS [wRoyal]++((r.terms.zip r.paid).map fun x=>agentS x.1 x.2).flatten++((r.prices.zip r.shares).map fun x=>kindS x.1 x.2).flatten++(r.reports.map reportS).flatten
end Go.Bk
namespace Go.Proofs
open Go.Shelf
def Tryz.lays169_ren:Go.Shelf.Ren:=⟨fun | 169=>88 | n=>n,fun | 70=>173 | 9=>9 | 0=>0 | 72=>175 | 37=>52 | 127=>274 | 3=>3 | 5=>5 | n=>n,fun | n=>n⟩
theorem Tryz.lays169:Go.Proofs.Lays.n169 Tryz.prog Tryz.lays169_ren:={
  mixed:=by kernel_rfl
  f169:=Tryz.func88.trans (congrArg some (by kernel_rfl))
  t0:=Tryz.underlying0
  a0:=Tryz.isAgg0
  z0:=Tryz.sizeOf0
  v0:=Tryz.zeroValue0
  t3:=Tryz.underlying3
  a3:=Tryz.isAgg3
  z3:=Tryz.sizeOf3
  v3:=Tryz.zeroValue3
  t9:=Tryz.underlying9
  a9:=Tryz.isAgg9
  z9:=Tryz.sizeOf9
  v9:=Tryz.zeroValue9
  t37:=Tryz.underlying52
  a37:=Tryz.isAgg52
  z37:=Tryz.sizeOf52
  v37:=Tryz.zeroValue52
  t70:=Tryz.underlying173
  a70:=Tryz.isAgg173
  z70:=Tryz.sizeOf173
  v70:=Tryz.zeroValue173
  t72:=Tryz.underlying175
  a72:=Tryz.isAgg175
  z72:=Tryz.sizeOf175
  v72:=Tryz.zeroValue175
  t127:=Tryz.underlying274
  a127:=Tryz.isAgg274
  z127:=Tryz.sizeOf274
  v127:=Tryz.zeroValue274 }
theorem Tryz.Builder_Extra_169:Builder.Extra Tryz.prog Tryz.lays169_ren:={
  sizeBuilder:=by kernel_rfl
  liesBuilder:=by kernel_rfl
  t5:=Tryz.underlying5
  a5:=Tryz.isAgg5
  z5:=Tryz.sizeOf5
  v5:=Tryz.zeroValue5
  infoByte:=by kernel_rfl
  cellsByte:=by kernel_rfl
  sizeByte:=by kernel_rfl
  neB5:=by decide }
open Go.RowKit in
theorem Tryz.Builder_String_any (B b:Nat) (l:List UInt8) (w:World) (h:Lib.IsBuilder 175 5 B b (Lib.byteCells l) w) (hBw:B≤w.heap.size) :
    Calls Tryz.prog 88 #[.pointer (some ⟨b,0,none⟩)] w fun e w'=>e = .returned (.string ⟨l.toArray⟩)∧Below B w w':=Any.Builder_String_any Tryz.lays169 Tryz.Builder_Extra_169 B b l w h hBw
def Tryz.lays156_ren:Go.Shelf.Ren:=⟨fun | 156=>156 | 165=>220 | 166=>86 | 169=>88 | 240=>154 | 241=>248 | 276=>218 | 277=>260 | n=>n,fun | 31=>271 | 9=>9 | 3=>3 | 4=>4 | 0=>0 | 20=>20 | 72=>175 | 76=>178 | 70=>173 | 37=>52 | 75=>177 | 127=>274 | 164=>323 | 5=>5 | 80=>182 | n=>n,fun | n=>n⟩
theorem Tryz.lays156:Go.Proofs.Lays.n156 Tryz.prog Tryz.lays156_ren:={
  mixed:=by kernel_rfl
  f156:=Tryz.func156.trans (congrArg some (by kernel_rfl))
  f165:=Tryz.func220.trans (congrArg some (by kernel_rfl))
  f166:=Tryz.func86.trans (congrArg some (by kernel_rfl))
  f169:=Tryz.func88.trans (congrArg some (by kernel_rfl))
  f240:=Tryz.func154.trans (congrArg some (by kernel_rfl))
  f241:=Tryz.func248.trans (congrArg some (by kernel_rfl))
  f276:=Tryz.func218.trans (congrArg some (by kernel_rfl))
  f277:=Tryz.func260.trans (congrArg some (by kernel_rfl))
  t0:=Tryz.underlying0
  a0:=Tryz.isAgg0
  z0:=Tryz.sizeOf0
  v0:=Tryz.zeroValue0
  t3:=Tryz.underlying3
  a3:=Tryz.isAgg3
  z3:=Tryz.sizeOf3
  v3:=Tryz.zeroValue3
  t4:=Tryz.underlying4
  a4:=Tryz.isAgg4
  z4:=Tryz.sizeOf4
  v4:=Tryz.zeroValue4
  t9:=Tryz.underlying9
  a9:=Tryz.isAgg9
  z9:=Tryz.sizeOf9
  v9:=Tryz.zeroValue9
  t20:=Tryz.underlying20
  a20:=Tryz.isAgg20
  z20:=Tryz.sizeOf20
  v20:=Tryz.zeroValue20
  t31:=Tryz.underlying271
  a31:=Tryz.isAgg271
  z31:=Tryz.sizeOf271
  v31:=Tryz.zeroValue271
  t37:=Tryz.underlying52
  a37:=Tryz.isAgg52
  z37:=Tryz.sizeOf52
  v37:=Tryz.zeroValue52
  t70:=Tryz.underlying173
  a70:=Tryz.isAgg173
  z70:=Tryz.sizeOf173
  v70:=Tryz.zeroValue173
  t72:=Tryz.underlying175
  a72:=Tryz.isAgg175
  z72:=Tryz.sizeOf175
  v72:=Tryz.zeroValue175
  t75:=Tryz.underlying177
  a75:=Tryz.isAgg177
  z75:=Tryz.sizeOf177
  v75:=Tryz.zeroValue177
  t76:=Tryz.underlying178
  a76:=Tryz.isAgg178
  z76:=Tryz.sizeOf178
  v76:=Tryz.zeroValue178
  t127:=Tryz.underlying274
  a127:=Tryz.isAgg274
  z127:=Tryz.sizeOf274
  v127:=Tryz.zeroValue274
  t164:=Tryz.underlying323
  a164:=Tryz.isAgg323
  z164:=Tryz.sizeOf323
  v164:=Tryz.zeroValue323 }
theorem Tryz.Builder_Extra_156:Builder.Extra Tryz.prog Tryz.lays156_ren:={
  sizeBuilder:=by kernel_rfl
  liesBuilder:=by kernel_rfl
  t5:=Tryz.underlying5
  a5:=Tryz.isAgg5
  z5:=Tryz.sizeOf5
  v5:=Tryz.zeroValue5
  infoByte:=by kernel_rfl
  cellsByte:=by kernel_rfl
  sizeByte:=by kernel_rfl
  neB5:=by decide }
open Go.RowKit in
theorem Tryz.strings_Join_none (a:Option Addr) (c:Nat) (sep:ByteArray) (w:World) :
    Calls Tryz.prog 156 #[.slice a 0 c,.string sep] w fun e w'=>e = .returned (.string ⟨#[]⟩)∧w'=w:=Any.strings_Join_none Tryz.lays156 Tryz.Builder_Extra_156 a c sep w
open Go.RowKit in
theorem Tryz.strings_Join (bk o c:Nat) (xs:List ByteArray) (sep:ByteArray) (w:World) (hcells:∀ (j:Nat) x,xs[j]? = some x→w.cell? ⟨bk,o + j,none⟩=some (.string x)) (hbk:bk < w.heap.size) (hN:xs.length≤140737488355328) (hcap:xs.length≤c) (hlen:(Lib.join (xs.map (·.data.toList)) sep.data.toList).length≤140737488355328) :
    Calls Tryz.prog 156 #[.slice (some ⟨bk,o,none⟩) xs.length c,.string sep] w fun e w'=>e = .returned (.string ⟨(Lib.join (xs.map (·.data.toList)) sep.data.toList).toArray⟩)∧Below w.heap.size w w':=Any.strings_Join Tryz.lays156 Tryz.Builder_Extra_156 bk o c xs sep w hcells hbk hN hcap hlen
def Tryz.lays137_ren:Go.Shelf.Ren:=⟨fun | 137=>241 | 217=>252 | 266=>269 | n=>n,fun | 9=>9 | 5=>5 | 3=>3 | n=>n,fun | n=>n⟩
theorem Tryz.lays137:Go.Proofs.Lays.n137 Tryz.prog Tryz.lays137_ren:={
  mixed:=by kernel_rfl
  f137:=Tryz.func241.trans (congrArg some (by kernel_rfl))
  f217:=Tryz.func252.trans (congrArg some (by kernel_rfl))
  f266:=Tryz.func269.trans (congrArg some (by kernel_rfl))
  t3:=Tryz.underlying3
  a3:=Tryz.isAgg3
  z3:=Tryz.sizeOf3
  v3:=Tryz.zeroValue3
  t5:=Tryz.underlying5
  a5:=Tryz.isAgg5
  z5:=Tryz.sizeOf5
  v5:=Tryz.zeroValue5
  t9:=Tryz.underlying9
  a9:=Tryz.isAgg9
  z9:=Tryz.sizeOf9
  v9:=Tryz.zeroValue9 }
open Go.RowKit in
theorem Tryz.strings_IndexByte (s:ByteArray) (c:Int) (w:World) :
    Calls Tryz.prog 241 #[.string s,.int .u8 c] w fun e w'=>e = .returned (.int .i64 (Lib.indexByte s.data.toList c.toNat.toUInt8))∧w'=w:=Any.strings_IndexByte Tryz.lays137 s c w
def Tryz.laysM171_ren:Go.Shelf.Ren:=⟨fun | 171=>155 | 243=>219 | 246=>247 | 283=>256 | 284=>257 | 285=>258 | 286=>259 | 129=>274 | 317=>273 | 318=>275 | 319=>276 | 320=>277 | 337=>283 | 338=>284 | n=>n,fun | 3=>3 | 9=>9 | 2=>2 | 4=>4 | 171=>344 | 0=>0 | 53=>322 | 37=>52 | 5=>5 | 173=>346 | 212=>359 | 51=>320 | 20=>20 | 213=>360 | 46=>123 | 232=>377 | 233=>378 | n=>n,fun | 17=>1 | 18=>6 | 19=>7 | n=>n⟩
theorem Tryz.laysM171:Go.Proofs.LaysM.n171 Tryz.prog Tryz.laysM171_ren:={
  mixed:=by kernel_rfl
  f129:=Tryz.func274.trans (congrArg some (by kernel_rfl))
  f171:=Tryz.func155.trans (congrArg some (by kernel_rfl))
  f243:=Tryz.func219.trans (congrArg some (by kernel_rfl))
  f246:=Tryz.func247.trans (congrArg some (by kernel_rfl))
  f283:=Tryz.func256.trans (congrArg some (by kernel_rfl))
  f284:=Tryz.func257.trans (congrArg some (by kernel_rfl))
  f285:=Tryz.func258.trans (congrArg some (by kernel_rfl))
  f286:=Tryz.func259.trans (congrArg some (by kernel_rfl))
  f317:=Tryz.func273.trans (congrArg some (by kernel_rfl))
  f318:=Tryz.func275.trans (congrArg some (by kernel_rfl))
  f319:=Tryz.func276.trans (congrArg some (by kernel_rfl))
  f320:=Tryz.func277.trans (congrArg some (by kernel_rfl))
  f337:=Tryz.func283.trans (congrArg some (by kernel_rfl))
  f338:=Tryz.func284.trans (congrArg some (by kernel_rfl))
  t0:=Tryz.underlying0
  a0:=Tryz.isAgg0
  z0:=Tryz.sizeOf0
  v0:=Tryz.zeroValue0
  t2:=Tryz.underlying2
  a2:=Tryz.isAgg2
  z2:=Tryz.sizeOf2
  v2:=Tryz.zeroValue2
  t3:=Tryz.underlying3
  a3:=Tryz.isAgg3
  z3:=Tryz.sizeOf3
  v3:=Tryz.zeroValue3
  t4:=Tryz.underlying4
  a4:=Tryz.isAgg4
  z4:=Tryz.sizeOf4
  v4:=Tryz.zeroValue4
  t5:=Tryz.underlying5
  a5:=Tryz.isAgg5
  z5:=Tryz.sizeOf5
  v5:=Tryz.zeroValue5
  t9:=Tryz.underlying9
  a9:=Tryz.isAgg9
  z9:=Tryz.sizeOf9
  v9:=Tryz.zeroValue9
  t20:=Tryz.underlying20
  a20:=Tryz.isAgg20
  z20:=Tryz.sizeOf20
  v20:=Tryz.zeroValue20
  t37:=Tryz.underlying52
  a37:=Tryz.isAgg52
  z37:=Tryz.sizeOf52
  v37:=Tryz.zeroValue52
  t46:=Tryz.underlying123
  a46:=Tryz.isAgg123
  z46:=Tryz.sizeOf123
  v46:=Tryz.zeroValue123
  t51:=Tryz.underlying320
  a51:=Tryz.isAgg320
  z51:=Tryz.sizeOf320
  v51:=Tryz.zeroValue320
  t53:=Tryz.underlying322
  a53:=Tryz.isAgg322
  z53:=Tryz.sizeOf322
  v53:=Tryz.zeroValue322
  t171:=Tryz.underlying344
  a171:=Tryz.isAgg344
  z171:=Tryz.sizeOf344
  v171:=Tryz.zeroValue344
  t173:=Tryz.underlying346
  a173:=Tryz.isAgg346
  z173:=Tryz.sizeOf346
  v173:=Tryz.zeroValue346
  t212:=Tryz.underlying359
  a212:=Tryz.isAgg359
  z212:=Tryz.sizeOf359
  v212:=Tryz.zeroValue359
  t213:=Tryz.underlying360
  a213:=Tryz.isAgg360
  z213:=Tryz.sizeOf360
  t232:=Tryz.underlying377
  a232:=Tryz.isAgg377
  z232:=Tryz.sizeOf377
  v232:=Tryz.zeroValue377
  t233:=Tryz.underlying378
  a233:=Tryz.isAgg378
  z233:=Tryz.sizeOf378
  v233:=Tryz.zeroValue378
  g17:=by kernel_rfl
  g18:=by kernel_rfl
  g19:=by kernel_rfl
  i0:=by kernel_rfl
  i2:=by kernel_rfl
  i3:=by kernel_rfl
  i4:=by kernel_rfl
  i5:=by kernel_rfl
  i9:=by kernel_rfl
  i20:=by kernel_rfl
  i37:=by kernel_rfl
  i46:=by kernel_rfl
  i51:=by kernel_rfl
  i53:=by kernel_rfl
  i171:=by kernel_rfl
  i173:=by kernel_rfl
  i212:=by kernel_rfl
  i232:=by kernel_rfl
  i233:=by kernel_rfl
  m17:=by kernel_rfl
  m18:=by kernel_rfl
  m19:=by kernel_rfl }
open Go.RowKit Go.Sort Go.Lib in
theorem Tryz.strconv_Itoa (n:Int) (h0:-9223372036854775808≤n) (h1:n≤9223372036854775807) (w:World) (htab:Lib.TabIs Tryz.prog w "internal/strconv.uint64pow10" .u64 Lib.pow10Tab) :
    Calls Tryz.prog 155 #[.int .i64 n] w fun e w'=>e = .returned (.string ⟨(Lib.itoa n).toArray⟩)∧∃ k os,w'=grow (w.drewN k) os:=Any.strconv_Itoa Tryz.laysM171 n h0 h1 w htab
def Tryz.laysC172_ren:Go.Shelf.Ren:=⟨fun | 172=>221 | 244=>249 | 245=>250 | 247=>261 | 279=>262 | 280=>263 | 281=>264 | 282=>265 | 287=>278 | 316=>279 | 171=>155 | 205=>280 | 321=>285 | 322=>286 | 243=>219 | 246=>247 | 283=>256 | 284=>257 | 285=>258 | 286=>259 | 129=>274 | 317=>273 | 318=>275 | 319=>276 | 320=>277 | 337=>283 | 338=>284 | n=>n,fun | 9=>9 | 3=>3 | 75=>177 | 76=>178 | 4=>4 | 5=>5 | 167=>349 | 37=>52 | 0=>0 | 85=>350 | 2=>2 | 168=>352 | 53=>322 | 175=>361 | 46=>123 | 210=>365 | 127=>274 | 145=>372 | 143=>370 | 21=>21 | 171=>344 | 173=>346 | 212=>359 | 51=>320 | 20=>20 | 213=>360 | 232=>377 | 233=>378 | 80=>182 | n=>n,fun | 15=>2 | 16=>3 | 17=>1 | 18=>6 | 19=>7 | n=>n⟩
theorem Tryz.laysC172:Go.Proofs.LaysC.n172 Tryz.prog Tryz.laysC172_ren:={
  mixed:=by kernel_rfl
  f129:=Tryz.func274.trans (congrArg some (by kernel_rfl))
  f171:=Tryz.func155.trans (congrArg some (by kernel_rfl))
  f172:=Tryz.func221.trans (congrArg some (by kernel_rfl))
  f205:=Tryz.func280.trans (congrArg some (by kernel_rfl))
  f243:=Tryz.func219.trans (congrArg some (by kernel_rfl))
  f244:=Tryz.func249.trans (congrArg some (by kernel_rfl))
  f245:=Tryz.func250.trans (congrArg some (by kernel_rfl))
  f246:=Tryz.func247.trans (congrArg some (by kernel_rfl))
  f247:=Tryz.func261.trans (congrArg some (by kernel_rfl))
  f279:=Tryz.func262.trans (congrArg some (by kernel_rfl))
  f280:=Tryz.func263.trans (congrArg some (by kernel_rfl))
  f281:=Tryz.func264.trans (congrArg some (by kernel_rfl))
  f282:=Tryz.func265.trans (congrArg some (by kernel_rfl))
  f283:=Tryz.func256.trans (congrArg some (by kernel_rfl))
  f284:=Tryz.func257.trans (congrArg some (by kernel_rfl))
  f285:=Tryz.func258.trans (congrArg some (by kernel_rfl))
  f286:=Tryz.func259.trans (congrArg some (by kernel_rfl))
  f287:=Tryz.func278.trans (congrArg some (by kernel_rfl))
  f316:=Tryz.func279.trans (congrArg some (by kernel_rfl))
  f317:=Tryz.func273.trans (congrArg some (by kernel_rfl))
  f318:=Tryz.func275.trans (congrArg some (by kernel_rfl))
  f319:=Tryz.func276.trans (congrArg some (by kernel_rfl))
  f320:=Tryz.func277.trans (congrArg some (by kernel_rfl))
  f321:=Tryz.func285.trans (congrArg some (by kernel_rfl))
  f322:=Tryz.func286.trans (congrArg some (by kernel_rfl))
  f337:=Tryz.func283.trans (congrArg some (by kernel_rfl))
  f338:=Tryz.func284.trans (congrArg some (by kernel_rfl))
  t0:=Tryz.underlying0
  a0:=Tryz.isAgg0
  z0:=Tryz.sizeOf0
  v0:=Tryz.zeroValue0
  t2:=Tryz.underlying2
  a2:=Tryz.isAgg2
  z2:=Tryz.sizeOf2
  v2:=Tryz.zeroValue2
  t3:=Tryz.underlying3
  a3:=Tryz.isAgg3
  z3:=Tryz.sizeOf3
  v3:=Tryz.zeroValue3
  t4:=Tryz.underlying4
  a4:=Tryz.isAgg4
  z4:=Tryz.sizeOf4
  v4:=Tryz.zeroValue4
  t5:=Tryz.underlying5
  a5:=Tryz.isAgg5
  z5:=Tryz.sizeOf5
  v5:=Tryz.zeroValue5
  t9:=Tryz.underlying9
  a9:=Tryz.isAgg9
  z9:=Tryz.sizeOf9
  v9:=Tryz.zeroValue9
  t20:=Tryz.underlying20
  a20:=Tryz.isAgg20
  z20:=Tryz.sizeOf20
  v20:=Tryz.zeroValue20
  t21:=Tryz.underlying21
  a21:=Tryz.isAgg21
  z21:=Tryz.sizeOf21
  v21:=Tryz.zeroValue21
  t37:=Tryz.underlying52
  a37:=Tryz.isAgg52
  z37:=Tryz.sizeOf52
  v37:=Tryz.zeroValue52
  t46:=Tryz.underlying123
  a46:=Tryz.isAgg123
  z46:=Tryz.sizeOf123
  v46:=Tryz.zeroValue123
  t51:=Tryz.underlying320
  a51:=Tryz.isAgg320
  z51:=Tryz.sizeOf320
  v51:=Tryz.zeroValue320
  t53:=Tryz.underlying322
  a53:=Tryz.isAgg322
  z53:=Tryz.sizeOf322
  v53:=Tryz.zeroValue322
  t75:=Tryz.underlying177
  a75:=Tryz.isAgg177
  z75:=Tryz.sizeOf177
  v75:=Tryz.zeroValue177
  t76:=Tryz.underlying178
  a76:=Tryz.isAgg178
  z76:=Tryz.sizeOf178
  v76:=Tryz.zeroValue178
  t85:=Tryz.underlying350
  a85:=Tryz.isAgg350
  z85:=Tryz.sizeOf350
  v85:=Tryz.zeroValue350
  t127:=Tryz.underlying274
  a127:=Tryz.isAgg274
  z127:=Tryz.sizeOf274
  v127:=Tryz.zeroValue274
  t143:=Tryz.underlying370
  a143:=Tryz.isAgg370
  z143:=Tryz.sizeOf370
  v143:=Tryz.zeroValue370
  t145:=Tryz.underlying372
  a145:=Tryz.isAgg372
  z145:=Tryz.sizeOf372
  v145:=Tryz.zeroValue372
  t167:=Tryz.underlying349
  a167:=Tryz.isAgg349
  z167:=Tryz.sizeOf349
  v167:=Tryz.zeroValue349
  t168:=Tryz.underlying352
  a168:=Tryz.isAgg352
  z168:=Tryz.sizeOf352
  v168:=Tryz.zeroValue352
  t171:=Tryz.underlying344
  a171:=Tryz.isAgg344
  z171:=Tryz.sizeOf344
  v171:=Tryz.zeroValue344
  t173:=Tryz.underlying346
  a173:=Tryz.isAgg346
  z173:=Tryz.sizeOf346
  v173:=Tryz.zeroValue346
  t175:=Tryz.underlying361
  a175:=Tryz.isAgg361
  z175:=Tryz.sizeOf361
  v175:=Tryz.zeroValue361
  t210:=Tryz.underlying365
  a210:=Tryz.isAgg365
  z210:=Tryz.sizeOf365
  v210:=Tryz.zeroValue365
  t212:=Tryz.underlying359
  a212:=Tryz.isAgg359
  z212:=Tryz.sizeOf359
  v212:=Tryz.zeroValue359
  t213:=Tryz.underlying360
  a213:=Tryz.isAgg360
  z213:=Tryz.sizeOf360
  t232:=Tryz.underlying377
  a232:=Tryz.isAgg377
  z232:=Tryz.sizeOf377
  v232:=Tryz.zeroValue377
  t233:=Tryz.underlying378
  a233:=Tryz.isAgg378
  z233:=Tryz.sizeOf378
  v233:=Tryz.zeroValue378
  g15:=by kernel_rfl
  g16:=by kernel_rfl
  g17:=by kernel_rfl
  g18:=by kernel_rfl
  g19:=by kernel_rfl
  t80:=Tryz.underlying182
  a80:=Tryz.isAgg182
  z80:=Tryz.sizeOf182
  v80:=Tryz.zeroValue182
  i0:=by kernel_rfl
  i2:=by kernel_rfl
  i3:=by kernel_rfl
  i4:=by kernel_rfl
  i5:=by kernel_rfl
  i9:=by kernel_rfl
  i20:=by kernel_rfl
  i21:=by kernel_rfl
  i37:=by kernel_rfl
  i46:=by kernel_rfl
  i51:=by kernel_rfl
  i53:=by kernel_rfl
  i75:=by kernel_rfl
  i76:=by kernel_rfl
  i80:=by kernel_rfl
  i85:=by kernel_rfl
  i127:=by kernel_rfl
  i143:=by kernel_rfl
  i145:=by kernel_rfl
  i167:=by kernel_rfl
  i168:=by kernel_rfl
  i171:=by kernel_rfl
  i173:=by kernel_rfl
  i175:=by kernel_rfl
  i210:=by kernel_rfl
  i212:=by kernel_rfl
  i232:=by kernel_rfl
  i233:=by kernel_rfl
  m15:=by kernel_rfl
  m16:=by kernel_rfl
  m17:=by kernel_rfl
  m18:=by kernel_rfl
  m19:=by kernel_rfl
  c0:=by kernel_rfl
  c2:=by kernel_rfl
  c3:=by kernel_rfl
  c4:=by kernel_rfl
  c5:=by kernel_rfl
  c9:=by kernel_rfl
  c20:=by kernel_rfl
  c21:=by kernel_rfl
  c37:=by kernel_rfl
  c46:=by kernel_rfl
  c51:=by kernel_rfl
  c53:=by kernel_rfl
  c75:=by kernel_rfl
  c76:=by kernel_rfl
  c80:=by kernel_rfl
  c85:=by kernel_rfl
  c127:=by kernel_rfl
  c143:=by kernel_rfl
  c145:=by kernel_rfl
  c167:=by kernel_rfl
  c168:=by kernel_rfl
  c171:=by kernel_rfl
  c173:=by kernel_rfl
  c175:=by kernel_rfl
  c210:=by kernel_rfl
  c212:=by kernel_rfl
  c213:=by kernel_rfl
  c232:=by kernel_rfl
  c233:=by kernel_rfl }
open Go.RowKit in
theorem Tryz.strconv_Atoi_ok (s:ByteArray) (hmax:s.size≤9223372036854775806) (v:Int) (h:Lib.atoiAll s.data.toList = .ok v) (w:World) :
    Calls Tryz.prog 221 #[.string s] w fun e w'=>e = .returned (.tuple #[.int .i64 v,.nilIface])∧(w'=w∨∃ t,w'=Lib.bytesWorld w 5 t):=Any.strconv_Atoi_ok Tryz.laysC172 s hmax v h w
open Go.RowKit in
theorem Tryz.strconv_Atoi_syntax (s:ByteArray) (hlim:s.size≤281474976710656) (h:Lib.atoiAll s.data.toList=Lib.atoiAll []) (ev:Value) (w:World) (hv:w.cell? ⟨2,0,none⟩=some ev) (hev:ev = .nilIface∨∃ te pe,ev = .iface te pe) :
    Calls Tryz.prog 221 #[.string s] w fun e w'=>∃ N,e = .returned (.tuple #[.int .i64 (0),.iface 352 (.pointer (some ⟨N,0,none⟩))])∧w.heap.size≤N∧w'.heap[N]? = some (.cells #[.string ⟨#[65,116,111,105]⟩,.string s,ev] 365 (0,0))∧Below w.heap.size w w':=Any.strconv_Atoi_syntax Tryz.laysC172 s hlim h ev w hv hev
open Go.RowKit in
theorem Tryz.strconv_Atoi_range (s:ByteArray) (hlim:s.size≤281474976710656) (h:Lib.atoiAll s.data.toList = .range) (ev:Value) (w:World) (hv:w.cell? ⟨3,0,none⟩=some ev) (hev:ev = .nilIface∨∃ te pe,ev = .iface te pe) :
    Calls Tryz.prog 221 #[.string s] w fun e w'=>∃ N,e = .returned (.tuple #[.int .i64 (Lib.atoiSat s.data.toList),.iface 352 (.pointer (some ⟨N,0,none⟩))])∧w.heap.size≤N∧w'.heap[N]? = some (.cells #[.string ⟨#[65,116,111,105]⟩,.string s,ev] 365 (0,0))∧Below w.heap.size w w':=Any.strconv_Atoi_range Tryz.laysC172 s hlim h ev w hv hev
def Tryz.lays145_ren:Go.Shelf.Ren:=⟨fun | 145=>158 | 220=>222 | 219=>251 | 217=>252 | 225=>266 | 224=>267 | 267=>268 | 266=>269 | 314=>281 | n=>n,fun | 9=>9 | 4=>4 | 59=>278 | 3=>3 | 5=>5 | 46=>123 | 146=>367 | 51=>320 | n=>n,fun | 1=>0 | n=>n⟩
theorem Tryz.lays145:Go.Proofs.Lays.n145 Tryz.prog Tryz.lays145_ren:={
  mixed:=by kernel_rfl
  f145:=Tryz.func158.trans (congrArg some (by kernel_rfl))
  f217:=Tryz.func252.trans (congrArg some (by kernel_rfl))
  f219:=Tryz.func251.trans (congrArg some (by kernel_rfl))
  f220:=Tryz.func222.trans (congrArg some (by kernel_rfl))
  f224:=Tryz.func267.trans (congrArg some (by kernel_rfl))
  f225:=Tryz.func266.trans (congrArg some (by kernel_rfl))
  f266:=Tryz.func269.trans (congrArg some (by kernel_rfl))
  f267:=Tryz.func268.trans (congrArg some (by kernel_rfl))
  f314:=Tryz.func281.trans (congrArg some (by kernel_rfl))
  t3:=Tryz.underlying3
  a3:=Tryz.isAgg3
  z3:=Tryz.sizeOf3
  v3:=Tryz.zeroValue3
  t4:=Tryz.underlying4
  a4:=Tryz.isAgg4
  z4:=Tryz.sizeOf4
  v4:=Tryz.zeroValue4
  t5:=Tryz.underlying5
  a5:=Tryz.isAgg5
  z5:=Tryz.sizeOf5
  v5:=Tryz.zeroValue5
  t9:=Tryz.underlying9
  a9:=Tryz.isAgg9
  z9:=Tryz.sizeOf9
  v9:=Tryz.zeroValue9
  t46:=Tryz.underlying123
  a46:=Tryz.isAgg123
  z46:=Tryz.sizeOf123
  v46:=Tryz.zeroValue123
  t51:=Tryz.underlying320
  a51:=Tryz.isAgg320
  z51:=Tryz.sizeOf320
  v51:=Tryz.zeroValue320
  t59:=Tryz.underlying278
  a59:=Tryz.isAgg278
  z59:=Tryz.sizeOf278
  v59:=Tryz.zeroValue278
  t146:=Tryz.underlying367
  a146:=Tryz.isAgg367
  z146:=Tryz.sizeOf367
  v146:=Tryz.zeroValue367
  g1:=by kernel_rfl }
open Go.RowKit Go.Lib in
theorem Tryz.strings_Cut (s sep:ByteArray) (m:Int) (w:World) (hs:s.size < 4294967281) (hm:w.cell? ⟨0,0,none⟩=some (.int .i64 m)) :
    Calls Tryz.prog 158 #[.string s,.string sep] w fun e w'=>e = .returned (.tuple #[.string ⟨(Lib.cut s.data.toList sep.data.toList).1.toArray⟩,.string ⟨(Lib.cut s.data.toList sep.data.toList).2.1.toArray⟩,.bool (Lib.cut s.data.toList sep.data.toList).2.2])∧∃ n,w'=w.drewN n:=Any.strings_Cut Tryz.lays145 s sep m w hs hm
def Tryz.lays100_ren:Go.Shelf.Ren:=⟨fun | 100=>208 | 207=>239 | n=>n,fun | 9=>9 | 4=>4 | 3=>3 | n=>n,fun | n=>n⟩
theorem Tryz.lays100:Go.Proofs.Lays.n100 Tryz.prog Tryz.lays100_ren:={
  mixed:=by kernel_rfl
  f100:=Tryz.func208.trans (congrArg some (by kernel_rfl))
  f207:=Tryz.func239.trans (congrArg some (by kernel_rfl))
  t3:=Tryz.underlying3
  a3:=Tryz.isAgg3
  z3:=Tryz.sizeOf3
  v3:=Tryz.zeroValue3
  t4:=Tryz.underlying4
  a4:=Tryz.isAgg4
  z4:=Tryz.sizeOf4
  v4:=Tryz.zeroValue4
  t9:=Tryz.underlying9
  a9:=Tryz.isAgg9
  z9:=Tryz.sizeOf9
  v9:=Tryz.zeroValue9 }
open Go.RowKit Go.Lib in
theorem Tryz.strings_HasSuffix (s p:ByteArray) (w:World) (hs:s.size≤9223372036854775807) :
    Calls Tryz.prog 208 #[.string s,.string p] w fun e w'=>e = .returned (.bool (Lib.hasSuffix s.data.toList p.data.toList))∧w'=w:=Any.strings_HasSuffix Tryz.lays100 s p w hs
def Tryz.lays102_ren:Go.Shelf.Ren:=⟨fun | 102=>211 | 209=>243 | 207=>239 | n=>n,fun | 9=>9 | 4=>4 | 3=>3 | n=>n,fun | n=>n⟩
theorem Tryz.lays102:Go.Proofs.Lays.n102 Tryz.prog Tryz.lays102_ren:={
  mixed:=by kernel_rfl
  f102:=Tryz.func211.trans (congrArg some (by kernel_rfl))
  f207:=Tryz.func239.trans (congrArg some (by kernel_rfl))
  f209:=Tryz.func243.trans (congrArg some (by kernel_rfl))
  t3:=Tryz.underlying3
  a3:=Tryz.isAgg3
  z3:=Tryz.sizeOf3
  v3:=Tryz.zeroValue3
  t4:=Tryz.underlying4
  a4:=Tryz.isAgg4
  z4:=Tryz.sizeOf4
  v4:=Tryz.zeroValue4
  t9:=Tryz.underlying9
  a9:=Tryz.isAgg9
  z9:=Tryz.sizeOf9
  v9:=Tryz.zeroValue9 }
open Go.RowKit Go.Lib in
theorem Tryz.strings_TrimSuffix (s p:ByteArray) (w:World) (hs:s.size≤9223372036854775807) :
    Calls Tryz.prog 211 #[.string s,.string p] w fun e w'=>e = .returned (.string ⟨(Lib.trimSuffix s.data.toList p.data.toList).toArray⟩)∧w'=w:=Any.strings_TrimSuffix Tryz.lays102 s p w hs
def Tryz.lays146_ren:Go.Shelf.Ren:=⟨fun | 146=>210 | 221=>242 | 268=>253 | 138=>254 | 143=>255 | 195=>270 | 197=>271 | 218=>272 | 219=>251 | 260=>282 | 217=>252 | 225=>266 | 224=>267 | 267=>268 | 266=>269 | 314=>281 | n=>n,fun | 9=>9 | 31=>271 | 3=>3 | 4=>4 | 0=>0 | 105=>356 | 21=>21 | 5=>5 | 46=>123 | 119=>373 | 139=>376 | 138=>375 | 146=>367 | 51=>320 | n=>n,fun | 1=>0 | 3=>4 | 4=>5 | n=>n⟩
theorem Tryz.lays146:Go.Proofs.Lays.n146 Tryz.prog Tryz.lays146_ren:={
  mixed:=by kernel_rfl
  f138:=Tryz.func254.trans (congrArg some (by kernel_rfl))
  f143:=Tryz.func255.trans (congrArg some (by kernel_rfl))
  f146:=Tryz.func210.trans (congrArg some (by kernel_rfl))
  f195:=Tryz.func270.trans (congrArg some (by kernel_rfl))
  f197:=Tryz.func271.trans (congrArg some (by kernel_rfl))
  f217:=Tryz.func252.trans (congrArg some (by kernel_rfl))
  f218:=Tryz.func272.trans (congrArg some (by kernel_rfl))
  f219:=Tryz.func251.trans (congrArg some (by kernel_rfl))
  f221:=Tryz.func242.trans (congrArg some (by kernel_rfl))
  f224:=Tryz.func267.trans (congrArg some (by kernel_rfl))
  f225:=Tryz.func266.trans (congrArg some (by kernel_rfl))
  f260:=Tryz.func282.trans (congrArg some (by kernel_rfl))
  f266:=Tryz.func269.trans (congrArg some (by kernel_rfl))
  f267:=Tryz.func268.trans (congrArg some (by kernel_rfl))
  f268:=Tryz.func253.trans (congrArg some (by kernel_rfl))
  f314:=Tryz.func281.trans (congrArg some (by kernel_rfl))
  t0:=Tryz.underlying0
  a0:=Tryz.isAgg0
  z0:=Tryz.sizeOf0
  v0:=Tryz.zeroValue0
  t3:=Tryz.underlying3
  a3:=Tryz.isAgg3
  z3:=Tryz.sizeOf3
  v3:=Tryz.zeroValue3
  t4:=Tryz.underlying4
  a4:=Tryz.isAgg4
  z4:=Tryz.sizeOf4
  v4:=Tryz.zeroValue4
  t5:=Tryz.underlying5
  a5:=Tryz.isAgg5
  z5:=Tryz.sizeOf5
  v5:=Tryz.zeroValue5
  t9:=Tryz.underlying9
  a9:=Tryz.isAgg9
  z9:=Tryz.sizeOf9
  v9:=Tryz.zeroValue9
  t21:=Tryz.underlying21
  a21:=Tryz.isAgg21
  z21:=Tryz.sizeOf21
  v21:=Tryz.zeroValue21
  t31:=Tryz.underlying271
  a31:=Tryz.isAgg271
  z31:=Tryz.sizeOf271
  v31:=Tryz.zeroValue271
  t46:=Tryz.underlying123
  a46:=Tryz.isAgg123
  z46:=Tryz.sizeOf123
  v46:=Tryz.zeroValue123
  t51:=Tryz.underlying320
  a51:=Tryz.isAgg320
  z51:=Tryz.sizeOf320
  v51:=Tryz.zeroValue320
  t105:=Tryz.underlying356
  a105:=Tryz.isAgg356
  z105:=Tryz.sizeOf356
  v105:=Tryz.zeroValue356
  t119:=Tryz.underlying373
  a119:=Tryz.isAgg373
  z119:=Tryz.sizeOf373
  t138:=Tryz.underlying375
  a138:=Tryz.isAgg375
  z138:=Tryz.sizeOf375
  v138:=Tryz.zeroValue375
  t139:=Tryz.underlying376
  a139:=Tryz.isAgg376
  z139:=Tryz.sizeOf376
  v139:=Tryz.zeroValue376
  t146:=Tryz.underlying367
  a146:=Tryz.isAgg367
  z146:=Tryz.sizeOf367
  v146:=Tryz.zeroValue367
  g1:=by kernel_rfl
  g3:=by kernel_rfl
  g4:=by kernel_rfl }
open Go.RowKit Go.Lib in
theorem Tryz.strings_Split (s sep:ByteArray) (m:Int) (w:World) (hs:s.size < 4294967281) (hm:w.cell? ⟨0,0,none⟩=some (.int .i64 m)) (h1:1≤sep.size) :
    Calls Tryz.prog 210 #[.string s,.string sep] w fun e w' =>
      e = .returned (.slice (some ⟨w.heap.size,0,none⟩) (Lib.countB s sep + 1) (Lib.countB s sep + 1))∧w'=w.alloc (.cells ((Lib.splitB sep 0 (Lib.countB s sep) s).map Value.string).toArray 9):=Any.strings_Split Tryz.lays146 (by kernel_rfl) s sep m w hs hm h1
end Go.Proofs
