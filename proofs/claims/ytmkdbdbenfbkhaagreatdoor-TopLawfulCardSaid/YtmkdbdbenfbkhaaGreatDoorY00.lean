/- The engine: what a state of a walk is, and the rules of code. No program is in sight. -/
import Derived.WalkKit
import Derived.OrdersHeld
import Derived.RangeFuncWrites
import Derived.RangeFuncLeaves
import Derived.RangeFuncCalls
import Derived.RangeFuncBound
import Derived.LoopNIn
import Derived.ProofKit
import Derived.OpenShut
import Derived.ShutString
import Derived.ChangeOld
import Derived.Below
import Derived.Carry
import Derived.Deep.Slices
import Derived.ArgAppend
set_option linter.unusedSimpArgs false
set_option linter.unusedVariables false
set_option linter.unusedSectionVars false
namespace Go.Eng
open Go Go.RowKit

/-! ## Registers -/
abbrev Regs:=List (Nat×Value)
def rget:Regs→Nat→Option Value
  | [],_=>none
  | (k,v)::r,t=>match Nat.beq k t with | true=>some v | false=>rget r t
def rev (r:Regs):Operand→Option Value
  | .tmp t=>rget r t
  | .const v=>some v
  | .global g=>some (.pointer (some ⟨g,0,none⟩))
  | .func f=>some (.func (.func f) #[] #[])
def revs (r:Regs):List Operand→Option (List Value)
  | []=>some []
  | x::xs=>match rev r x with
    | none=>none
    | some v=>match revs r xs with
      | none=>none
      | some vs=>some (v::vs)
def Agree (a:Act) (r:Regs):Prop:=∀ t v,rget r t=some v→a.tmps[t]? = some v

theorem Agree.eval {a:Act} {r:Regs} (h:Agree a r) {x:Operand} {v:Value} (hx:rev r x=some v):a.eval x=v:=by
  cases x with
  | tmp t=>have:=h t v hx;simp [Act.eval,this]
  | const u=>simp only [rev,Option.some.injEq] at hx;exact hx
  | global g=>simpa [rev,Act.eval] using hx
  | func f=>simpa [rev,Act.eval] using hx

theorem Agree.evals {a:Act} {r:Regs} (h:Agree a r):∀ {xs:List Operand} {vs:List Value},revs r xs=some vs→xs.map a.eval=vs
  | [],vs,hx=>by simp [revs] at hx;simp [hx]
  | x::xs,vs,hx=>by
    simp only [revs] at hx
    split at hx
    · cases hx
    · rename_i v hv
      split at hx
      · cases hx
      · rename_i us hus
        cases hx
        simp [h.eval hv,h.evals hus]

theorem Agree.put {a:Act} {r:Regs} (h:Agree a r) {d:Nat} {v:Value} (hd:d < a.tmps.size):Agree (a.put (some d) v) ((d,v)::r):=by
  intro t u ht;simp only [rget] at ht
  split at ht
  · rename_i he
    have:d=t:=Nat.eq_of_beq_eq_true he
    subst this
    cases ht
    simp [Act.put,hd]
  · rename_i he
    have:d ≠ t:=fun e=>by subst e;simp at he
    have:=h t u ht
    simp [Act.put,Array.getElem?_setIfInBounds_ne ‹d ≠ t›,this]

def Sub (q r:Regs):Prop:=∀ t v,rget q t=some v→rget r t=some v
theorem Sub.nil (r:Regs):Sub [] r:=fun _ _ h=>by cases h
theorem Sub.cons {q r:Regs} {t:Nat} {v:Value} (h:rget r t=some v) (hs:Sub q r):Sub ((t,v)::q) r:=by
  intro t' v' h';simp only [rget] at h'
  split at h'
  · rename_i he;have:=Nat.eq_of_beq_eq_true he;subst this;cases h';exact h
  · exact hs _ _ h'
theorem Ad8 (r:Regs):Sub r r:=fun _ _ h=>h
theorem Agree.sub {a:Act} {q r:Regs} (h:Agree a r) (hs:Sub q r):Agree a q:=fun t v ht=>h t v (hs t v ht)

/-! ## Memory -/
abbrev Blks:=List (Nat×Obj)
structure Mem (W:World) (chg news:Blks) (w:World):Prop where
  os:w.os=W.os
  tape:w.tape=W.tape
  output:w.output=W.output
  size:W.heap.size≤w.heap.size
  old:∀ k,k < W.heap.size→(∀ o,(k,o) ∉ chg)→w.heap[k]? = W.heap[k]?
  chgd:∀ b o,(b,o)∈chg→b < W.heap.size∧w.heap[b]? = some o
  newd:∀ b o,(b,o)∈news→W.heap.size≤b∧w.heap[b]? = some o
  once:((chg++news).map (·.1)).Nodup

theorem Mem.refl (W:World):Mem W [] [] W :=
  ⟨rfl,rfl,rfl,Nat.le_refl _,fun _ _ _=>rfl,fun _ _ h=>by simp at h,fun _ _ h=>by simp at h,by simp⟩

theorem Mem.start {W:World} {b:Nat} {o:Obj} (h:W.heap[b]? = some o):Mem W [(b,o)] [] W :=
  ⟨rfl,rfl,rfl,Nat.le_refl _,fun _ _ _=>rfl,fun b' o' h'=>by
    simp at h';obtain ⟨rfl,rfl⟩:=h';exact ⟨lt_of_block h,h⟩,fun _ _ h=>by simp at h,by simp⟩

theorem Mem.below {W w:World} (h:Mem W [] [] w):Below W.heap.size W w :=
  ⟨h.os,h.tape,h.output,h.size,fun k hk=>h.old k hk (fun _ hm=>by cases hm)⟩
theorem Mem.of_below {W w:World} (h:Below W.heap.size W w):Mem W [] [] w :=
  ⟨h.os,h.tape,h.output,h.size,fun k hk _=>h.block k hk,fun _ _ h=>(by simp at h),fun _ _ h=>(by simp at h),by simp⟩

theorem Mem.fewer {W w:World} {chg news news':Blks} (h:Mem W chg news w) (hs:news'.Sublist news):Mem W chg news' w :=
  { h with newd:=fun b o hb=>h.newd b o (hs.mem hb),once:=h.once.sublist ((List.Sublist.append (List.Sublist.refl _) hs).map _) }

theorem Mem.drop {W w:World} {chg news:Blks} (h:Mem W chg news w):Mem W chg [] w:=h.fewer (List.nil_sublist _)

theorem Mem.lt_new {W w:World} {chg news:Blks} (h:Mem W chg news w) {b:Nat} {o:Obj} (hb:(b,o)∈chg++news):b < w.heap.size:=by
  rcases List.mem_append.1 hb with hb | hb
  · exact lt_of_block (h.chgd b o hb).2
  · exact lt_of_block (h.newd b o hb).2

theorem Mem.at {W w:World} {chg news:Blks} (h:Mem W chg news w) {b:Nat} {o:Obj} (hb:(b,o)∈chg++news):w.heap[b]? = some o:=by
  rcases List.mem_append.1 hb with hb | hb
  · exact (h.chgd b o hb).2
  · exact (h.newd b o hb).2

theorem Mem.drew {W w:World} {chg news:Blks} (h:Mem W chg news w):Mem W chg news w.drew:=⟨h.os,h.tape,h.output,h.size,h.old,h.chgd,h.newd,h.once⟩

theorem Mem.alloc {W w:World} {chg news:Blks} (h:Mem W chg news w) (o:Obj):Mem W chg ((w.heap.size,o)::news) (w.alloc o) where
  os:=h.os
  tape:=h.tape
  output:=h.output
  size:=by have:=h.size;simp;omega
  old:=fun k hk hc=>by rw [Below.heap_alloc w o k (by have:=h.size;omega)];exact h.old k hk hc
  chgd:=fun b o' hb=>⟨(h.chgd b o' hb).1,by rw [Below.heap_alloc w o b (lt_of_block (h.chgd b o' hb).2)];exact (h.chgd b o' hb).2⟩
  newd:=fun b o' hb=>by
    rcases List.mem_cons.1 hb with he | hb
    · cases he;exact ⟨h.size,heap_alloc_new w o⟩
    · exact ⟨(h.newd b o' hb).1,by rw [Below.heap_alloc w o b (lt_of_block (h.newd b o' hb).2)];exact (h.newd b o' hb).2⟩
  once:=by
    have h1:=h.once;have hlt:∀ b o',(b,o')∈chg++news→b ≠ w.heap.size:=fun b o' hb=>Nat.ne_of_lt (h.lt_new hb)
    simp only [List.map_append,List.map_cons,List.nodup_append,List.nodup_cons] at h1 ⊢;obtain ⟨a1,a2,a3⟩:=h1;refine ⟨a1,⟨?_,a2⟩,?_⟩
    · intro hm;obtain ⟨⟨b,o'⟩,hb,he⟩:=List.mem_map.1 hm;exact hlt b o' (List.mem_append_right _ hb) he
    · intro x hx y hy
      rcases List.mem_cons.1 hy with rfl | hy
      · obtain ⟨⟨b,o'⟩,hb,he⟩:=List.mem_map.1 hx;subst he;exact hlt b o' (List.mem_append_left _ hb)
      · exact a3 x hx y hy

inductive Upd:Blks→Nat→Obj→Obj→Blks→Prop
  | here {b:Nat} {o o':Obj} {r:Blks}:Upd ((b,o)::r) b o o' ((b,o')::r)
  | there {b:Nat} {o o':Obj} {x:Nat×Obj} {r r':Blks} (h:Upd r b o o' r'):Upd (x::r) b o o' (x::r')

theorem Upd.keys {l l':Blks} {b:Nat} {o o':Obj} (h:Upd l b o o' l'):l'.map (·.1)=l.map (·.1):=by
  induction h with
  | here=>rfl
  | there _ ih=>simp [ih]
theorem Upd.mem {l l':Blks} {b:Nat} {o o':Obj} (h:Upd l b o o' l'):(b,o)∈l:=by
  induction h with
  | here=>simp
  | there _ ih=>simp [ih]
theorem Upd.mem' {l l':Blks} {b:Nat} {o o':Obj} (h:Upd l b o o' l'):(b,o')∈l':=by
  induction h with
  | here=>simp
  | there _ ih=>simp [ih]
theorem Upd.other {l l':Blks} {b:Nat} {o o':Obj} (h:Upd l b o o' l') (hn:(l.map (·.1)).Nodup) {k:Nat} {x:Obj} (hk:(k,x)∈l'):(k=b∧x=o')∨(k ≠ b∧(k,x)∈l):=by
  induction h with
  | here =>
    rcases List.mem_cons.1 hk with he | hk'
    · cases he;exact .inl ⟨rfl,rfl⟩
    · refine .inr ⟨?_,List.mem_cons_of_mem _ hk'⟩
      rintro rfl
      simp only [List.map_cons,List.nodup_cons] at hn;exact hn.1 (List.mem_map.2 ⟨(_,x),hk',rfl⟩)
  | there h ih =>
    simp only [List.map_cons,List.nodup_cons] at hn
    rcases List.mem_cons.1 hk with he | hk
    · refine .inr ⟨?_,by rw [he];simp⟩
      rintro rfl
      exact hn.1 (by rw [← he];exact List.mem_map.2 ⟨_,h.mem,rfl⟩)
    · rcases ih hn.2 hk with h' | ⟨h1,h2⟩
      · exact .inl h'
      · exact .inr ⟨h1,List.mem_cons_of_mem _ h2⟩

theorem Mem.upd_new {W w w':World} {chg news news':Blks} (h:Mem W chg news w) {b:Nat} {o o':Obj} (hu:Upd news b o o' news')
    (h1:w'.os=w.os) (h2:w'.tape=w.tape) (h3:w'.output=w.output) (h4:w.heap.size≤w'.heap.size) (h5:∀ k,k < w.heap.size→k ≠ b→w'.heap[k]? = w.heap[k]?) (h6:w'.heap[b]? = some o'):Mem W chg news' w' where
  os:=h1.trans h.os
  tape:=h2.trans h.tape
  output:=h3.trans h.output
  size:=Nat.le_trans h.size h4
  old:=fun k hk hc=>by
    have hb:=(h.newd b o hu.mem).1;rw [h5 k (by have:=h.size;omega) (by omega)];exact h.old k hk hc
  chgd:=fun k x hk=>by
    have hb:=(h.newd b o hu.mem).1;have hc:=h.chgd k x hk;exact ⟨hc.1,by rw [h5 k (lt_of_block hc.2) (by omega)];exact hc.2⟩
  newd:=fun k x hk=>by
    have hn:(news.map (·.1)).Nodup:=by have:=h.once;rw [List.map_append,List.nodup_append] at this;exact this.2.1
    rcases hu.other hn hk with ⟨rfl,rfl⟩ | ⟨hne,hm⟩
    · exact ⟨(h.newd _ o hu.mem).1,h6⟩
    · have:=h.newd k x hm;exact ⟨this.1,by rw [h5 k (lt_of_block this.2) hne];exact this.2⟩
  once:=by have:=h.once;rw [List.map_append] at this ⊢;rw [hu.keys];exact this

theorem Mem.upd_chg {W w w':World} {chg chg' news:Blks} (h:Mem W chg news w) {b:Nat} {o o':Obj} (hu:Upd chg b o o' chg')
    (h1:w'.os=w.os) (h2:w'.tape=w.tape) (h3:w'.output=w.output) (h4:w.heap.size≤w'.heap.size) (h5:∀ k,k < w.heap.size→k ≠ b→w'.heap[k]? = w.heap[k]?) (h6:w'.heap[b]? = some o'):Mem W chg' news w' where
  os:=h1.trans h.os
  tape:=h2.trans h.tape
  output:=h3.trans h.output
  size:=Nat.le_trans h.size h4
  old:=fun k hk hc=>by
    have hkeys:=hu.keys;have hkb:k ≠ b:=fun e=>hc o' (by rw [e];exact hu.mem')
    rw [h5 k (by have:=h.size;omega) hkb];refine h.old k hk (fun x hx=>?_)
    have:k∈chg'.map (·.1):=by rw [hkeys];exact List.mem_map.2 ⟨(k,x),hx,rfl⟩
    obtain ⟨⟨k',y⟩,hy,rfl⟩:=List.mem_map.1 this;exact hc y hy
  chgd:=fun k x hk=>by
    have hn:(chg.map (·.1)).Nodup:=by have:=h.once;rw [List.map_append,List.nodup_append] at this;exact this.1
    rcases hu.other hn hk with ⟨rfl,rfl⟩ | ⟨hne,hm⟩
    · exact ⟨(h.chgd _ o hu.mem).1,h6⟩
    · have:=h.chgd k x hm;exact ⟨this.1,by rw [h5 k (lt_of_block this.2) hne];exact this.2⟩
  newd:=fun k x hk=>by
    have hb:=(h.chgd b o hu.mem).1;have hc:=h.newd k x hk;exact ⟨hc.1,by rw [h5 k (lt_of_block hc.2) (by omega)];exact hc.2⟩
  once:=by have:=h.once;rw [List.map_append] at this ⊢;rw [hu.keys];exact this

theorem Mem.trans {W w w':World} {chg news news':Blks} (h:Mem W chg news w) (h':Mem w [] news' w'):Mem W chg (news'++news) w' where
  os:=h'.os.trans h.os
  tape:=h'.tape.trans h.tape
  output:=h'.output.trans h.output
  size:=Nat.le_trans h.size h'.size
  old:=fun k hk hc=>by rw [h'.old k (by have:=h.size;omega) (fun _ hm=>by cases hm)];exact h.old k hk hc
  chgd:=fun b o hb=>by
    have:=h.chgd b o hb
    exact ⟨this.1,by rw [h'.old b (lt_of_block this.2) (fun _ hm=>by cases hm)];exact this.2⟩
  newd:=fun b o hb=>by
    rcases List.mem_append.1 hb with hb | hb
    · have:=h'.newd b o hb;exact ⟨Nat.le_trans h.size this.1,this.2⟩
    · have:=h.newd b o hb;exact ⟨this.1,by rw [h'.old b (lt_of_block this.2) (fun _ hm=>by cases hm)];exact this.2⟩
  once:=by
    have h1:=h.once;have h2:=h'.once;simp only [List.map_append,List.nodup_append,List.nil_append] at h1 h2 ⊢;obtain ⟨a1,a2,a3⟩:=h1
    have far:∀ x∈news'.map (·.1),∀ b o,(b,o)∈chg++news→b ≠ x:=fun x hx b o hb=>by
      obtain ⟨⟨k,y⟩,hk,rfl⟩:=List.mem_map.1 hx
      have:=(h'.newd k y hk).1
      have:=h.lt_new hb
      simp;omega
    refine ⟨a1,⟨h2,a2,fun x hx y hy=>?_⟩,fun x hx y hy=>?_⟩
    · obtain ⟨⟨k,z⟩,hk,rfl⟩:=List.mem_map.1 hy
      exact (far x hx k z (List.mem_append_right _ hk)).symm
    · obtain ⟨⟨k,z⟩,hk,rfl⟩:=List.mem_map.1 hx
      rcases List.mem_append.1 hy with hy | hy
      · exact far y hy k z (List.mem_append_left _ hk)
      · exact a3 _ (List.mem_map.2 ⟨_,hk,rfl⟩) y hy

theorem Mem.pass {W w w':World} {chg news:Blks} (h:Mem W chg news w) (h':Mem w [] [] w'):Mem W chg news w':=by simpa using h.trans h'

theorem Mem.cell {W w:World} {chg news:Blks} (h:Mem W chg news w) {p:Addr} (hp:p.block < W.heap.size) (hc:∀ o,(p.block,o) ∉ chg):w.cell? p=W.cell? p :=
  World.cell?_of_block (w:=W) (h.old p.block hp hc)

/-! ## States -/
structure St (n:Nat) (r:Regs) (ds:List Deferred) (W:World) (chg news:Blks) (a:Act) (w:World):Prop where
  size:a.tmps.size=n
  agree:Agree a r
  defers:a.defers=ds
  mem:Mem W chg news w

theorem St.put {n:Nat} {r:Regs} {ds:List Deferred} {W:World} {chg news:Blks} {a:Act} {w:World} (h:St n r ds W chg news a w) {d:Nat} (hd:d < n) (v:Value):St n ((d,v)::r) ds W chg news (a.put (some d) v) w :=
  ⟨by simp [Act.put,h.size],h.agree.put (by rw [h.size];exact hd),h.defers,h.mem⟩
theorem St.sub {n:Nat} {q r:Regs} {ds:List Deferred} {W:World} {chg news news':Blks} {a:Act} {w:World} (h:St n r ds W chg news a w) (hs:Sub q r) (hn:news'.Sublist news):St n q ds W chg news' a w :=
  ⟨h.size,h.agree.sub hs,h.defers,h.mem.fewer hn⟩

def RunC (P:Program) (Q:Exit→Act→World→Prop) (n:Nat) (c:Code) (r:Regs) (ds:List Deferred) (W:World) (chg news:Blks):Prop :=
  ∀ a w,St n r ds W chg news a w→c.wp P Q a w
def RunL (P:Program) (ops:Array Oper) (Q:Exit→Act→World→Prop) (n:Nat) (l:List Oper) (r:Regs) (ds:List Deferred) (W:World) (chg news:Blks):Prop :=
  ∀ a w,St n r ds W chg news a w→wpList P ops Q l a w
def RunE (Q:Exit→Act→World→Prop) (n:Nat) (e:Exit) (r:Regs) (ds:List Deferred) (W:World) (chg news:Blks):Prop :=
  ∀ a w,St n r ds W chg news a w→Q e a w

section
variable {P:Program} {ops:Array Oper} {Q:Exit→Act→World→Prop} {n:Nat} {r:Regs} {ds:List Deferred} {W:World} {chg news:Blks}

theorem RunC.seq {x y:Code} (h:RunC P (Exit.then (y.wp P Q) Q) n x r ds W chg news):RunC P Q n (.seq x y) r ds W chg news:=fun a w s=>wp_seq (h a w s)
theorem RunC.block {id:Nat} {c:Code} (h:RunC P (Exit.inBlock id Q) n c r ds W chg news):RunC P Q n (.block id c) r ds W chg news:=fun a w s=>wp_block (h a w s)
theorem RunC.skip (h:RunE Q n .normal r ds W chg news):RunC P Q n .skip r ds W chg news:=fun a w s=>wp_skip (h a w s)
theorem RunC.label {l:Nat} (h:RunE Q n .normal r ds W chg news):RunC P Q n (.label l) r ds W chg news:=fun a w s=>wp_label (h a w s)
theorem RunC.exit {id:Nat} (h:RunE Q n (.exit id) r ds W chg news):RunC P Q n (.exit id) r ds W chg news:=fun a w s=>wp_exit (h a w s)
theorem RunC.ret (h:RunE Q n .ret r ds W chg news):RunC P Q n .ret r ds W chg news:=fun a w s=>wp_ret (h a w s)
theorem RunC.cond {c:Operand} {x y:Code} {t:Bool} (hc:rev r c=some (.bool t)) (ht:t=true→RunC P Q n x r ds W chg news) (hf:t=false→RunC P Q n y r ds W chg news) :
    RunC P Q n (.cond c x y) r ds W chg news:=fun a w s=>by
  refine wp_cond (s.agree.eval hc) ?_
  cases t
  · exact hf rfl a w s
  · exact ht rfl a w s
theorem AV1 {c:Operand} {x y:Code} (hc:rev r c=some (.bool true)) (ht:RunC P Q n x r ds W chg news):RunC P Q n (.cond c x y) r ds W chg news :=
  RunC.cond hc (fun _=>ht) (fun h=>by cases h)
theorem AT1 {c:Operand} {x y:Code} (hc:rev r c=some (.bool false)) (hf:RunC P Q n y r ds W chg news):RunC P Q n (.cond c x y) r ds W chg news :=
  RunC.cond hc (fun h=>by cases h) (fun _=>hf)
theorem RunC.region {id:Nat} {l:List Oper} (h:RunL P l.toArray Q n l r ds W chg news):RunC P Q n (.region id l.toArray false) r ds W chg news:=fun a w s=>wp_region_lit (h a w s)
theorem RunL.nil (h:RunE Q n .normal r ds W chg news):RunL P ops Q n [] r ds W chg news:=fun a w s=>h a w s

theorem RunE.next {y:Code} {Q':Exit→Act→World→Prop} (h:RunC P Q n y r ds W chg news):RunE (Exit.then (y.wp P Q) Q') n .normal r ds W chg news:=fun a w s=>h a w s
theorem Ac7 {K:Act→World→Prop} {id:Nat} (h:RunE Q n (.exit id) r ds W chg news):RunE (Exit.then K Q) n (.exit id) r ds W chg news:=fun a w s=>h a w s
theorem Ab8 {K:Act→World→Prop} (h:RunE Q n .ret r ds W chg news):RunE (Exit.then K Q) n .ret r ds W chg news:=fun a w s=>h a w s
theorem Ac0 {id:Nat} (h:RunE Q n .normal r ds W chg news):RunE (Exit.inBlock id Q) n .normal r ds W chg news:=fun a w s=>h a w s
theorem Ac5 {id:Nat} (h:RunE Q n .ret r ds W chg news):RunE (Exit.inBlock id Q) n .ret r ds W chg news:=fun a w s=>h a w s
theorem Ab0 {id:Nat} (h:RunE Q n .normal r ds W chg news):RunE (Exit.inBlock id Q) n (.exit id) r ds W chg news:=fun a w s=>by simpa [Exit.inBlock] using h a w s
theorem AK9 {id id':Nat} (hne:Nat.beq id id'=false) (h:RunE Q n (.exit id') r ds W chg news):RunE (Exit.inBlock id Q) n (.exit id') r ds W chg news:=fun a w s=>by
  have:id' ≠ id:=fun e=>by subst e;simp at hne
  simpa [Exit.inBlock,this] using h a w s

theorem RunC.sub {c:Code} (q:Regs) (news':Blks) (hs:Sub q r) (hn:news'.Sublist news) (h:RunC P Q n c q ds W chg news'):RunC P Q n c r ds W chg news:=fun a w s=>h a w (s.sub hs hn)
theorem RunL.sub {l:List Oper} (q:Regs) (news':Blks) (hs:Sub q r) (hn:news'.Sublist news) (h:RunL P ops Q n l q ds W chg news'):RunL P ops Q n l r ds W chg news:=fun a w s=>h a w (s.sub hs hn)
theorem RunE.sub {e:Exit} (q:Regs) (news':Blks) (hs:Sub q r) (hn:news'.Sublist news) (h:RunE Q n e q ds W chg news'):RunE Q n e r ds W chg news:=fun a w s=>h a w (s.sub hs hn)

theorem RunC.loop {ι:Type} {body:Code} (R:ι→Regs) (Cg Nw:ι→Blks) (Inv:ι→Prop) (μ:ι→Nat) (x0:ι) (h0:Inv x0) (hs:Sub (R x0) r) (hc:chg=Cg x0) (hn:(Nw x0).Sublist news)
    (hb:∀ x,Inv x→RunC P (Exit.then (fun a w=>∃ y,Inv y∧μ y < μ x∧St n (R y) ds W (Cg y) (Nw y) a w) Q) n body (R x) ds W (Cg x) (Nw x)) :
    RunC P Q n (.loop body) r ds W chg news:=by
  have key:∀ (m:Nat) x,μ x < m→Inv x→∀ a w,St n (R x) ds W (Cg x) (Nw x) a w→Code.rounds P body Q m a w:=by
    intro m
    induction m with
    | zero=>intro x h;omega
    | succ m ih =>
      intro x hx hi a w s;rw [rounds_succ];refine wp_mono (hb x hi a w s) ?_
      rintro e a2 w2 hq
      cases e with
      | normal =>
        obtain ⟨y,hy,hlt,sy⟩:=hq;exact ih y (by omega) hy a2 w2 sy
      | exit id=>exact hq
      | goto l=>exact hq
      | ret=>exact hq
      | panic c=>exact hq
      | outgrown=>exact hq
  intro a w s;subst hc;exact wp_loop_rounds _ (key _ x0 (Nat.lt_succ_self _) h0 a w (s.sub hs hn))

end
end Go.Eng
/- The engine: the rules of operations. No program is in sight: what a rule wants of the tables of types is a premise. -/
namespace Go.Eng
open Go Go.RowKit

/-! ## What is asked of the tables -/
def isAggD:TypeDesc→Bool
  | .struct _ | .array ..=>true
  | _=>false
def tyB (P:Program) (T:TypeId):Option (Bool×Nat) :=
  match P.info? T,P.underlying T with
  | some i,some d=>some (isAggD d,i.size)
  | _,_=>none
def zeroB (P:Program) (T:TypeId):Option (List Value):=((P.info? T).bind (·.zero)).map (·.cells.toList)
def fieldB (P:Program) (T:TypeId) (i:Nat):Option Nat :=
  match P.underlying T with
  | some (.struct fs)=>match fs[i]? with
    | some f=>match P.info? f.type with
      | some j=>if j.size=0 then none else some f.offset
      | none=>none
    | none=>none
  | _=>none
def placesB (P:Program) (T:TypeId):Option (List (Nat×Nat)) :=
  match P.underlying T with
  | some (.struct fs)=>fs.toList.mapM fun f=>(P.info? f.type).map fun j=>(f.offset,j.size)
  | some (.array n e)=>(P.info? e).map fun j=>(List.range n).map fun i=>(i * j.size,j.size)
  | _=>none
def arrB (P:Program) (T:TypeId):Option (Nat×Nat) :=
  match P.underlying T with
  | some (.array n e)=>(P.info? e).map fun j=>(n,j.size)
  | _=>none
def slB (P:Program) (T:TypeId):Option (TypeId×Nat) :=
  match P.underlying T with
  | some (.slice e)=>(P.info? e).map fun j=>(e,j.size)
  | _=>none

/-! ## Lists of cells -/
def grabN:List Value→Nat→Option (List Value)
  | _,0=>some []
  | [],_ + 1=>none
  | c::cs,n + 1=>match grabN cs n with
    | some l=>some (c::l)
    | none=>none
def grab:List Value→Nat→Nat→Option (List Value)
  | cs,0,n=>grabN cs n
  | [],_ + 1,_=>none
  | _::cs,o + 1,n=>grab cs o n
def nth:List Value→Nat→Option Value
  | [],_=>none
  | c::_,0=>some c
  | _::cs,o + 1=>nth cs o
def isOne:Value→Bool
  | .agg _ | .tuple _=>false
  | _=>true
def pasteN:List Value→List Value→Option (List Value)
  | cs,[]=>some cs
  | [],_::_=>none
  | _::cs,v::vs=>match isOne v with
    | true=>match pasteN cs vs with
      | some l=>some (v::l)
      | none=>none
    | false=>none
def paste:List Value→Nat→List Value→Option (List Value)
  | cs,0,vs=>pasteN cs vs
  | [],_ + 1,_=>none
  | c::cs,o + 1,vs=>match paste cs o vs with
    | some l=>some (c::l)
    | none=>none
def cellsL:Value→List Value
  | .agg cs=>cs.toList
  | v=>[v]

theorem AW9:∀ (cs:List Value) (o:Nat),nth cs o=cs[o]?
  | [],_=>by simp [nth]
  | c::cs,0=>by simp [nth]
  | c::cs,o + 1=>by simp [nth,AW9 cs o]
theorem AY5:∀ {cs:List Value} {n:Nat} {l:List Value},grabN cs n=some l→l.length=n∧∀ i,i < n→cs[i]? = l[i]?
  | cs,0,l,h=>by simp [grabN] at h;subst h;simp
  | [],n + 1,l,h=>by simp [grabN] at h
  | c::cs,n + 1,l,h=>by
    simp only [grabN] at h
    split at h
    · rename_i l' hl'
      cases h
      have:=AY5 hl'
      refine ⟨by simp [this.1],fun i hi=>?_⟩
      cases i with
      | zero=>simp
      | succ i=>simpa using this.2 i (by omega)
    · cases h
theorem AE0:∀ {cs:List Value} {o n:Nat} {l:List Value},grab cs o n=some l→l.length=n∧∀ i,i < n→cs[o + i]? = l[i]?
  | cs,0,n,l,h=>by
    have h':grabN cs n=some l:=by cases cs <;> simpa [grab] using h
    simpa using AY5 h'
  | [],o + 1,n,l,h=>by simp [grab] at h
  | c::cs,o + 1,n,l,h=>by
    have:=AE0 (cs:=cs) (o:=o) (n:=n) (l:=l) h
    refine ⟨this.1,fun i hi=>?_⟩
    rw [show o + 1 + i=(o + i) + 1 by omega];simpa using this.2 i hi

/-! ## Loads -/
theorem Au0 {P:Program} {w:World} {a:Addr}:∀ (cs:List Value) (i:Nat) (acc:Array Value),(∀ j (h:j < cs.length),w.cell? (a.add (i + j))=some cs[j]) →
    (loadCellsFrom a i cs.length acc).run P w = .ok (acc++cs.toArray) w
  | [],i,acc,_=>by simp [loadCellsFrom]
  | c::cs,i,acc,h=>by
    have h0:=h 0 (by simp);simp only [Nat.add_zero,List.getElem_cons_zero] at h0
    have ih:=Au0 (P:=P) (w:=w) (a:=a) cs (i + 1) (acc.push c) (fun j hj=>by
      have:=h (j + 1) (by simp;omega)
      rw [show i + 1 + j=i + (j + 1) by omega];simpa using this)
    simp only [List.length_cons,loadCellsFrom,load]
    show ((Sem.load Mode.plain (a.add i) Sem.pure).bind fun v=>loadCellsFrom a (i + 1) cs.length (acc.push v)).run P w=_
    simp only [Sem.bind,Sem.run,h0];rw [ih];simp

theorem An5 {P:Program} {w:World} {T:TypeId} {a:Addr} {cs:List Value} (hT:tyB P T=some (true,cs.length)) (h:∀ j (hj:j < cs.length),w.cell? (a.add j)=some cs[j]) :
    (loadVar T a).run P w = .ok (.agg cs.toArray) w:=by
  unfold tyB at hT
  split at hT
  · rename_i i d hi hd
    simp only [Option.some.injEq,Prod.mk.injEq] at hT;have h2:=Au0 (P:=P) (w:=w) (a:=a) cs 0 #[] (by simpa using h)
    have hagg:(isAgg T).run P w = .ok true w:=by
      unfold isAgg
      cases d <;> simp_all [isAggD,run_underlying hd]
    simp [loadVar,hagg,sizeOf,typeInfo,hi,hT.2,loadCells,h2]
  · cases hT

theorem Ah4 {P:Program} {w:World} {T:TypeId} {a:Addr} {v:Value} {sz:Nat} (hT:tyB P T=some (false,sz)) (h:w.cell? a=some v) :
    (loadVar T a).run P w = .ok v w:=by
  unfold tyB at hT
  split at hT
  · rename_i i d hi hd
    simp only [Option.some.injEq,Prod.mk.injEq] at hT
    have hagg:(isAgg T).run P w = .ok false w:=by
      unfold isAgg
      cases d <;> simp_all [isAggD,run_underlying hd]
    simp [loadVar,hagg,load,h,Sem.run]
  · cases hT

theorem add_plain (b off i:Nat):(Addr.mk b off none).add i=⟨b,off + i,none⟩:=by
  unfold Addr.add
  split
  · rename_i h;subst h;rfl
  · rfl
theorem Ae6 {w:World} {b:Nat} {cs:List Value} {T:TypeId} {fr:Nat×Nat} (h:w.heap[b]? = some (.cells cs.toArray T fr)) (o:Nat):w.cell? ⟨b,o,none⟩=cs[o]?:=by simp [World.cell?,h]

/-! ## One operation -/
section
variable {P:Program} {ops:Array Oper} {Q:Exit→Act→World→Prop} {n:Nat} {r:Regs} {ds:List Deferred} {W:World} {chg news:Blks} {rest:List Oper}
variable {d:Nat} {ty:TypeId} {pos:String} {after:Array Edge} {dst:Option Tmp} {gd:Option (Nat×Bool)}

structure Val (P:Program) (r:Regs) (W:World) (chg news:Blks) (o:Oper) (v:Value):Prop where
  run:∀ a w,Agree a r→Mem W chg news w→(execOp a.eval o).run P w = .ok (.value v) w
structure New (P:Program) (r:Regs) (W:World) (chg news:Blks) (o:Oper) (v:Nat→Value) (ob:Obj):Prop where
  run:∀ a w,Agree a r→Mem W chg news w→(execOp a.eval o).run P w = .ok (.value (v w.heap.size)) (w.alloc ob)
structure Sto (P:Program) (r:Regs) (W:World) (chg news:Blks) (o:Oper) (chg' news':Blks):Prop where
  run:∀ a w,Agree a r→Mem W chg news w→∃ w',(execOp a.eval o).run P w = .ok .skip w'∧Mem W chg' news' w'

def guardB (ops:Array Oper) (r:Regs):Option (Nat×Bool)→Option Bool
  | none=>some true
  | some (j,want)=>match (ops[j]?).bind (·.dst) with
    | some t=>match rget r t with
      | some (.bool b)=>some (b == want)
      | some (.tuple _)=>some false
      | _=>none
    | none=>none
theorem Ae3 {a:Act} (ha:Agree a r) {o:Oper} {g:Bool} (h:guardB ops r o.guard=some g):Region.wanted o (yielded ops a.tmps)=g:=by
  unfold Region.wanted
  cases hg:o.guard with
  | none=>simp [guardB,hg] at h;simp [h]
  | some jw =>
    obtain ⟨j,want⟩:=jw;simp only [guardB,hg] at h
    split at h
    · rename_i t ht
      split at h
      · rename_i b hb
        have:=ha _ _ hb
        simp [yielded,ht,this] at h ⊢
        cases b <;> cases want <;> simp_all
      · rename_i vs hb
        have:=ha _ _ hb
        simp [yielded,ht,this] at h ⊢
        exact h.symm ▸ rfl
      · cases h
    · cases h

theorem Ay3 {a:Act} {w:World} {o:Oper} (hw:Region.wanted o (yielded ops a.tmps)=true)
    (h:∀ K:Act→World→Prop,(∀ a w,wpList P ops Q rest a w→K a w)→o.wp P a w K Q):wpList P ops Q (o::rest) a w :=
  wpList_step fun K hK=>by rw [if_pos hw];exact h K hK

theorem Aa0 {o:Oper} {v:Value} (hv:Val P r W chg news o v) (hg:guardB ops r o.guard=some true) (hd:o.dst=some d) (hn:Nat.ble (d + 1) n=true)
    (h:RunL P ops Q n rest ((d,v)::r) ds W chg news):RunL P ops Q n (o::rest) r ds W chg news:=fun a w s =>
  Ay3 (Ae3 s.agree hg) fun K hK=>by
    unfold Oper.wp;rw [hv.run a w s.agree s.mem,Oper.upon_value,hd];exact hK _ _ (h _ _ (s.put (Nat.le_of_ble_eq_true hn) v))
theorem Ac9 {o:Oper} (hg:guardB ops r o.guard=some false) (hd:o.dst=some d) (hn:Nat.ble (d + 1) n=true)
    (h:RunL P ops Q n rest ((d,undef)::r) ds W chg news):RunL P ops Q n (o::rest) r ds W chg news:=fun a w s =>
  wpList_skip (Ae3 s.agree hg) (by rw [hd];exact h _ _ (s.put (Nat.le_of_ble_eq_true hn) undef))
theorem Ac3 {o:Oper} {v:Nat→Value} {ob:Obj} (hv:New P r W chg news o v ob) (hg:guardB ops r o.guard=some true) (hd:o.dst=some d) (hn:Nat.ble (d + 1) n=true)
    (h:∀ b,RunL P ops Q n rest ((d,v b)::r) ds W chg ((b,ob)::news)):RunL P ops Q n (o::rest) r ds W chg news:=fun a w s =>
  Ay3 (Ae3 s.agree hg) fun K hK=>by
    unfold Oper.wp;rw [hv.run a w s.agree s.mem,Oper.upon_value,hd];have s2:=s.put (Nat.le_of_ble_eq_true hn) (v w.heap.size);exact hK _ _ (h _ _ _ ⟨s2.size,s2.agree,s2.defers,s.mem.alloc ob⟩)
theorem Ab4 {o:Oper} {chg' news':Blks} (hv:Sto P r W chg news o chg' news') (hg:guardB ops r o.guard=some true) (hd:o.dst=none)
    (h:RunL P ops Q n rest r ds W chg' news'):RunL P ops Q n (o::rest) r ds W chg news:=fun a w s =>
  Ay3 (Ae3 s.agree hg) fun K hK=>by
    obtain ⟨w',h1,h2⟩:=hv.run a w s.agree s.mem;unfold Oper.wp;rw [h1,Oper.upon_skip,hd];exact hK _ _ (h _ _ ⟨s.size,s.agree,s.defers,h2⟩)

def pureV (r:Regs):Op→Option Value
  | .move x=>rev r x
  | .assign x=>rev r x
  | .pick c x y=>match rev r c with
    | some (.bool true)=>rev r x
    | some (.bool false)=>rev r y
    | _=>none
  | .binOp .leq _ x y _=>match rev r x,rev r y with
    | some (.int k a),some (.int k' b)=>match decEq k k' with
      | isTrue _=>some (.bool (decide (a≤b)))
      | isFalse _=>none
    | _,_=>none
  | .binOp .lss _ x y _=>match rev r x,rev r y with
    | some (.int k a),some (.int k' b)=>match decEq k k' with
      | isTrue _=>some (.bool (decide (a < b)))
      | isFalse _=>none
    | _,_=>none
  | .binOp .geq _ x y _=>match rev r x,rev r y with
    | some (.int k a),some (.int k' b)=>match decEq k k' with
      | isTrue _=>some (.bool (decide (b≤a)))
      | isFalse _=>none
    | _,_=>none
  | .binOp .gtr _ x y _=>match rev r x,rev r y with
    | some (.int k a),some (.int k' b)=>match decEq k k' with
      | isTrue _=>some (.bool (decide (b < a)))
      | isFalse _=>none
    | _,_=>none
  | .binOp .eql _ x y _=>match rev r x,rev r y with
    | some (.int k a),some (.int k' b)=>match decEq k k' with
      | isTrue _=>some (.bool (decide (a=b)))
      | isFalse _=>none
    | _,_=>none
  | .binOp .neq _ x y _=>match rev r x,rev r y with
    | some (.int k a),some (.int k' b)=>match decEq k k' with
      | isTrue _=>some (.bool (!decide (a=b)))
      | isFalse _=>none
    | _,_=>none
  | .unOp .not _ x=>match rev r x with
    | some (.bool b)=>some (.bool (!b))
    | _=>none
  | .extract x i=>match rev r x with
    | some (.tuple vs)=>nth vs.toList i
    | _=>none
  | .makeFunc fn first captured=>match revs r first.toList,revs r captured.toList with
    | some xs,some ys=>some (.func fn xs.toArray ys.toArray)
    | _,_=>none
  | .nilCheck x=>match rev r x with
    | some (.pointer (some a))=>some (.pointer (some a))
    | _=>none
  | _=>none

theorem AB6 {o:Oper} {a:Act} {v:Value} (ha:Agree a r) (h:pureV r o.op=some v) (w:World):(execOp a.eval o).run P w = .ok (.value v) w:=by
  obtain ⟨dst,op,type,pos,after,guard⟩:=o;simp only at h
  unfold pureV at h
  split at h
  · simp [execOp,ha.eval h]
  · simp [execOp,ha.eval h]
  · split at h
    · rename_i hc;simp [execOp,ha.eval hc,ha.eval h,asBool]
    · rename_i hc;simp [execOp,ha.eval hc,ha.eval h,asBool]
    · cases h
  all_goals try (
    split at h
    · rename_i k x k' y hx hy
      split at h
      · rename_i he _;subst he;cases h
        simp [execOp,ha.eval hx,ha.eval hy,eqGuard,binOp,Op.intCmp]
        try rfl
      · cases h
    · cases h)
  · split at h
    · rename_i b hx;cases h;simp [execOp,ha.eval hx,Op.unary]
    · cases h
  · split at h
    · rename_i vs hx;rw [AW9] at h;simp at h;simp [execOp,ha.eval hx,Instr.extract,h]
    · cases h
  · split at h
    · rename_i fn first captured _ _ xs ys hx hy
      cases h
      have h1:=ha.evals hx;have h2:=ha.evals hy;have e1:first.map a.eval=xs.toArray:=by apply Array.ext';simp [h1]
      have e2:captured.map a.eval=ys.toArray:=by apply Array.ext';simp [h2]
      simp [execOp,e1,e2,Instr.makeFunc]
    · cases h
  · split at h
    · rename_i a' hx;cases h;simp [execOp,ha.eval hx]
    · cases h
  · cases h

theorem Aa8 {o:Oper} {v:Value} (hv:pureV r o.op=some v):Val P r W chg news o v:=⟨fun _ w ha _=>AB6 ha hv w⟩

/-! ### Numbers -/
theorem Val.add {x y:Operand} {T yt:TypeId} {k:IntKind} {p q:Int} (hx:rev r x=some (.int k p)) (hy:rev r y=some (.int k q)) (hr:k.wrap (p + q)=p + q) :
    Val P r W chg news { dst,op:=.binOp .add T x y yt,type:=ty,pos,after,guard:=gd } (.int k (p + q)) :=
  ⟨fun a w ha hm0=>by simp [execOp,ha.eval hx,ha.eval hy,eqGuard,binOp,Op.intArith,hr]⟩
theorem Aj9 {x y:Operand} {T yt:TypeId} {k:IntKind} {p q:Int} (hx:rev r x=some (.int k p)) (hy:rev r y=some (.int k q)) (hr:k.wrap (p - q)=p - q) :
    Val P r W chg news { dst,op:=.binOp .sub T x y yt,type:=ty,pos,after,guard:=gd } (.int k (p - q)) :=
  ⟨fun a w ha hm0=>by simp [execOp,ha.eval hx,ha.eval hy,eqGuard,binOp,Op.intArith,hr]⟩
theorem Val.mul {x y:Operand} {T yt:TypeId} {k:IntKind} {p q:Int} (hx:rev r x=some (.int k p)) (hy:rev r y=some (.int k q)) (hr:k.wrap (p * q)=p * q) :
    Val P r W chg news { dst,op:=.binOp .mul T x y yt,type:=ty,pos,after,guard:=gd } (.int k (p * q)) :=
  ⟨fun a w ha hm0=>by simp [execOp,ha.eval hx,ha.eval hy,eqGuard,binOp,Op.intArith,hr]⟩
theorem Bs6 {x y:Operand} {T yt:TypeId} {k:IntKind} {p q:Int} (hx:rev r x=some (.int k p)) (hy:rev r y=some (.int k q)) :
    Val P r W chg news { dst,op:=.binOp .sub T x y yt,type:=ty,pos,after,guard:=gd } (.int k (k.wrap (p - q))) :=
  ⟨fun a w ha hm0=>by simp [execOp,ha.eval hx,ha.eval hy,eqGuard,binOp,Op.intArith]⟩
theorem Val.rem {x y:Operand} {T yt:TypeId} {k:IntKind} {p q:Int} (hx:rev r x=some (.int k p)) (hy:rev r y=some (.int k q)) (hp:0≤p) (hq:0 < q) :
    Val P r W chg news { dst,op:=.binOp .rem T x y yt,type:=ty,pos,after,guard:=gd } (.int k (p % q)) :=
  ⟨fun a w ha hm0=>by
    have:¬ q=0:=by omega
    simp [execOp,ha.eval hx,ha.eval hy,eqGuard,binOp,Op.intDiv,this,Int.tmod_eq_emod_of_nonneg hp]⟩
theorem Val.neg {x:Operand} {T:TypeId} {k:IntKind} {p:Int} (hx:rev r x=some (.int k p)) (hr:k.wrap (-p) = -p) :
    Val P r W chg news { dst,op:=.unOp .neg T x,type:=ty,pos,after,guard:=gd } (.int k (-p)) :=
  ⟨fun a w ha hm0=>by simp [execOp,ha.eval hx,Op.unary,Op.intArith,hr]⟩
theorem Val.max {x y:Operand} {ats:Array TypeId} {k k':IntKind} {p q:Int} (hx:rev r x=some (.int k p)) (hy:rev r y=some (.int k' q)) :
    Val P r W chg news { dst,op:=.call { callee:=.builtin .max,args:=#[x,y],argTypes:=ats },type:=ty,pos,after,guard:=gd } (.int k (Max.max p q)) :=
  ⟨fun a w ha hm0=>by
    rw [BigFrame.execOp_builtin,BigFrame.builtin_max];have e:(if q > p then q else p)=Max.max p q:=by rw [Int.max_def];split <;> split <;> omega
    simp [ha.eval hx,ha.eval hy,Builtin.max_,Builtin.max2,e]⟩
theorem Val.min {x y:Operand} {ats:Array TypeId} {k k':IntKind} {p q:Int} (hx:rev r x=some (.int k p)) (hy:rev r y=some (.int k' q)) :
    Val P r W chg news { dst,op:=.call { callee:=.builtin .min,args:=#[x,y],argTypes:=ats },type:=ty,pos,after,guard:=gd } (.int k (Min.min p q)) :=
  ⟨fun a w ha hm0=>by
    rw [BigFrame.execOp_builtin,BigFrame.builtin_min];have e:(if q < p then q else p)=Min.min p q:=by rw [Int.min_def];split <;> split <;> omega
    simp [ha.eval hx,ha.eval hy,Builtin.min_,Builtin.min2,e]⟩

/-! ### Addresses -/
theorem Val.fieldAddr {x:Operand} {T:TypeId} {i off b o:Nat} (hx:rev r x=some (.pointer (some ⟨b,o,none⟩))) (hf:fieldB P T i=some off) :
    Val P r W chg news { dst,op:=.fieldAddr T x i,type:=ty,pos,after,guard:=gd } (.pointer (some ⟨b,o + off,none⟩)) :=
  ⟨fun a w ha hm0=>by
    unfold fieldB at hf
    split at hf
    · rename_i fs hfs
      split at hf
      · rename_i f hfi
        split at hf
        · rename_i j hj
          split at hf
          · cases hf
          · rename_i hne
            cases hf
            simp [execOp,ha.eval hx,Instr.fieldAt,run_underlying hfs,hfi,Instr.sureAddr,fieldPlace,sizeOf,typeInfo,hj,hne,add_plain]
        · cases hf
      · cases hf
    · cases hf⟩
theorem Aj1 {x y:Operand} {T:TypeId} {len sz b o:Nat} {k:IntKind} {i:Int} (hx:rev r x=some (.pointer (some ⟨b,o,none⟩))) (hy:rev r y=some (.int k i)) (hT:arrB P T=some (len,sz))
    (h0:0≤i) (h1:i < len) :
    Val P r W chg news { dst,op:=.indexAddr T x y,type:=ty,pos,after,guard:=gd } (.pointer (some ⟨b,o + i.toNat * sz,none⟩)) :=
  ⟨fun a w ha hm0=>by
    unfold arrB at hT
    split at hT
    · rename_i m e hu
      cases hj:P.info? e with
      | none=>simp [hj] at hT
      | some j =>
        simp [hj] at hT
        obtain ⟨rfl,rfl⟩:=hT;simp [execOp,ha.eval hx,ha.eval hy,Instr.indexAt,asIntOf,run_underlying hu,Instr.sureAddr,sizeOf,typeInfo,hj,h0,h1,add_plain]
    · cases hT⟩
theorem Ag8 {x y:Operand} {T e:TypeId} {sz b o len cap:Nat} {k:IntKind} {i:Int} (hx:rev r x=some (.slice (some ⟨b,o,none⟩) len cap)) (hy:rev r y=some (.int k i)) (hT:slB P T=some (e,sz))
    (h0:0≤i) (h1:i < len) :
    Val P r W chg news { dst,op:=.indexAddr T x y,type:=ty,pos,after,guard:=gd } (.pointer (some ⟨b,o + i.toNat * sz,none⟩)) :=
  ⟨fun a w ha hm0=>by
    unfold slB at hT
    split at hT
    · rename_i e' hu
      cases hj:P.info? e' with
      | none=>simp [hj] at hT
      | some j =>
        simp [hj] at hT
        obtain ⟨rfl,rfl⟩:=hT;simp [execOp,ha.eval hx,ha.eval hy,Instr.indexAt,asIntOf,run_underlying hu,sizeOf,typeInfo,hj,h0,h1,add_plain]
    · cases hT⟩

/-! ### Memory -/
theorem Ab6 {x:Operand} {T T0:TypeId} {b o sz:Nat} {cs vs:List Value} {fr:Nat×Nat} (hx:rev r x=some (.pointer (some ⟨b,o,none⟩))) (hm:(b,.cells cs.toArray T0 fr)∈chg++news)
    (hT:tyB P T=some (true,sz)) (hv:grab cs o sz=some vs) :
    Val P r W chg news { dst,op:=.load T x,type:=ty,pos,after,guard:=gd } (.agg vs.toArray) :=
  ⟨fun a w ha hm0=>by
    obtain ⟨h1,h2⟩:=AE0 hv;have hb:=hm0.at hm
    have:=An5 (P:=P) (w:=w) (T:=T) (a:=⟨b,o,none⟩) (cs:=vs) (by rw [h1];exact hT) (fun j hj=>by
      rw [add_plain,Ae6 hb,h2 j (by omega)];simp [hj])
    simp [execOp,ha.eval hx,Instr.loadAt,Instr.sureAddr,this]⟩
theorem Aa1 {x:Operand} {T T0:TypeId} {b o sz:Nat} {cs:List Value} {v:Value} {fr:Nat×Nat} (hx:rev r x=some (.pointer (some ⟨b,o,none⟩))) (hm:(b,.cells cs.toArray T0 fr)∈chg++news)
    (hT:tyB P T=some (false,sz)) (hv:nth cs o=some v) :
    Val P r W chg news { dst,op:=.load T x,type:=ty,pos,after,guard:=gd } (v) :=
  ⟨fun a w ha hm0=>by
    have:=Ah4 (P:=P) (w:=w) (T:=T) (a:=⟨b,o,none⟩) hT (by rw [Ae6 (hm0.at hm),← AW9];exact hv)
    simp [execOp,ha.eval hx,Instr.loadAt,Instr.sureAddr,this]⟩
theorem Ab2 {x:Operand} {T:TypeId} {ad:Addr} {v:Value} (hx:rev r x=some (.pointer (some ad))) (hv:∀ w,Mem W chg news w→(loadVar T ad).run P w = .ok v w) :
    Val P r W chg news { dst,op:=.load T x,type:=ty,pos,after,guard:=gd } (v) :=
  ⟨fun a w ha hm0=>by simp [execOp,ha.eval hx,Instr.loadAt,Instr.sureAddr,hv w hm0]⟩

theorem New.alloc {T:TypeId} {zs:List Value} (hz:zeroB P T=some zs) :
    New P r W chg news { dst,op:=.alloc T,type:=ty,pos,after,guard:=gd } (fun b=>.pointer (some ⟨b,0,none⟩)) (.cells zs.toArray T (0,0)) :=
  ⟨fun a w _ _=>by
    unfold zeroB at hz
    cases hi:P.info? T with
    | none=>simp [hi] at hz
    | some i =>
      cases hzi:i.zero with
      | none=>simp [hi,hzi] at hz
      | some z =>
        simp [hi,hzi] at hz
        subst hz;simp [execOp,Instr.alloc,zeroValue,typeInfo,hi,hzi,newVar,newRow,newObj,Sem.run]⟩
theorem New.box {x:Operand} {T:TypeId} {v:Value} (hx:rev r x=some v) :
    New P r W chg news { dst,op:=.box T x,type:=ty,pos,after,guard:=gd } (fun b=>.pointer (some ⟨b,0,none⟩)) (.cells (cellsL v).toArray T (0,0)) :=
  ⟨fun a w ha _=>by
    have e1:v.cells=(cellsL v).toArray:=by cases v <;> rfl
    simp [execOp,Instr.box,ha.eval hx,newVar,newRow,newObj,Sem.run,e1]⟩


/-! ### Stores -/
theorem AO9:∀ {vs cs cs':List Value},pasteN cs vs=some cs'→vs.length≤cs.length∧(∀ v∈vs,isOne v=true)∧cs'=vs++cs.drop vs.length
  | [],cs,cs',h=>by cases cs <;> simp [pasteN] at h <;> simp [h]
  | v::vs,[],cs',h=>by simp [pasteN] at h
  | v::vs,c::cs,cs',h=>by
    simp only [pasteN] at h
    split at h
    · rename_i hone
      split at h
      · rename_i l hl
        cases h
        obtain ⟨h1,h2,h3⟩:=AO9 hl;refine ⟨by simp;omega,?_,by simp [h3]⟩
        intro u hu
        rcases List.mem_cons.1 hu with rfl | hu
        · exact hone
        · exact h2 u hu
      · cases h
    · cases h
theorem Ay7:∀ {o:Nat} {vs cs cs':List Value},paste cs o vs=some cs'→o + vs.length≤cs.length∧(∀ v∈vs,isOne v=true)∧cs'=cs.take o++(vs++cs.drop (o + vs.length))
  | 0,vs,cs,cs',h=>by
    have h':pasteN cs vs=some cs':=by cases cs <;> simpa [paste] using h
    obtain ⟨h1,h2,h3⟩:=AO9 h';exact ⟨by omega,h2,by simpa using h3⟩
  | o + 1,vs,[],cs',h=>by simp [paste] at h
  | o + 1,vs,c::cs,cs',h=>by
    simp only [paste] at h
    split at h
    · rename_i l hl
      cases h
      obtain ⟨h1,h2,h3⟩:=Ay7 hl;exact ⟨by simp;omega,h2,by rw [show o + 1 + vs.length=(o + vs.length) + 1 by omega];simp [h3]⟩
    · cases h

def setCells (w:World) (b o:Nat):List Value→World
  | []=>w
  | v::vs=>setCells (w.setCell ⟨b,o,none⟩ v) b (o + 1) vs

theorem At5 {P:Program} {b:Nat} {T:TypeId}:∀ (vs:List Value) (w:World) (cs:List Value) (o i:Nat),w.heap[b]? = some (.cells cs.toArray T (0,0))→(o + i) + vs.length≤cs.length→(∀ v∈vs,isOne v=true) →
    (storeCells ⟨b,o,none⟩ vs i).run P w = .ok () (setCells w b (o + i) vs)
  | [],w,cs,o,i,_,_,_=>by simp [storeCells,setCells]
  | v::vs,w,cs,o,i,hb,hl,hone=>by
    simp only [List.length_cons] at hl;have hlt:=lt_of_block hb;have hc:w.cell? ⟨b,o + i,none⟩=some cs[o + i]:=by rw [Ae6 hb];simp
    have hf:w.frozen? ⟨b,o + i,none⟩=false:=by simp [World.frozen?,hb]
    have hb':(w.setCell ⟨b,o + i,none⟩ v).heap[b]? = some (.cells (cs.set (o + i) v).toArray T (0,0)):=by
      have h':w.heap[b] = .cells cs.toArray T (0,0):=by simpa [Array.getElem?_eq_getElem hlt] using hb
      show (w.heap.modify b _)[b]? = _
      rw [Array.getElem?_eq_getElem (by simpa using hlt),Array.getElem_modify_self,h'];simp
    have ih:=At5 (P:=P) vs (w.setCell ⟨b,o + i,none⟩ v) (cs.set (o + i) v) o (i + 1) hb' (by simp;omega) (fun u hu=>hone u (List.mem_cons_of_mem _ hu));have h1:=hone v (by simp);simp only [storeCells,setCells,store,add_plain]
    show ((Sem.store Mode.plain ⟨b,o + i,none⟩ v (Sem.pure ())).bind fun _=>storeCells ⟨b,o,none⟩ vs (i + 1)).run P w=_
    have e:((Sem.store Mode.plain ⟨b,o + i,none⟩ v (Sem.pure ())).bind fun _=>storeCells ⟨b,o,none⟩ vs (i + 1)).run P w=(storeCells ⟨b,o,none⟩ vs (i + 1)).run P (w.setCell ⟨b,o + i,none⟩ v):=by
      simp only [Sem.bind]
      cases v <;> simp [isOne] at h1 <;> simp [Sem.run,hc,hf]
    rw [e,ih];rfl

theorem AO1 (v:Value) (vs:List Value):∀ (cs:List Value) (o:Nat),o < cs.length→(cs.set o v).take (o + 1)++(vs++(cs.set o v).drop (o + 1 + vs.length))=cs.take o++((v::vs)++cs.drop (o + (v::vs).length))
  | [],o,h=>by simp at h
  | c::cs,0,_=>by simp [Nat.add_comm 1]
  | c::cs,o + 1,h=>by
    have ih:=AO1 v vs cs o (by simpa using h);simp only [List.set_cons_succ,List.take_succ_cons,List.cons_append,List.length_cons] at ih ⊢;rw [show o + 1 + 1 + vs.length=(o + 1 + vs.length) + 1 by omega,show o + 1 + (vs.length + 1)=(o + (vs.length + 1)) + 1 by omega];simp only [List.drop_succ_cons];rw [ih]

theorem Av5 {b:Nat} {T:TypeId}:∀ (vs:List Value) (w:World) (cs:List Value) (o:Nat),w.heap[b]? = some (.cells cs.toArray T (0,0))→o + vs.length≤cs.length →
    (setCells w b o vs).os=w.os∧(setCells w b o vs).tape=w.tape∧(setCells w b o vs).output=w.output∧w.heap.size≤(setCells w b o vs).heap.size∧(∀ k,k ≠ b→(setCells w b o vs).heap[k]? = w.heap[k]?) ∧
      (setCells w b o vs).heap[b]? = some (.cells (cs.take o++(vs++cs.drop (o + vs.length))).toArray T (0,0))
  | [],w,cs,o,hb,hl=>by simp [setCells,hb]
  | v::vs,w,cs,o,hb,hl=>by
    simp only [List.length_cons] at hl;have hlt:=lt_of_block hb
    have hb':(w.setCell ⟨b,o,none⟩ v).heap[b]? = some (.cells (cs.set o v).toArray T (0,0)):=by
      have h':w.heap[b] = .cells cs.toArray T (0,0):=by simpa [Array.getElem?_eq_getElem hlt] using hb
      show (w.heap.modify b _)[b]? = _
      rw [Array.getElem?_eq_getElem (by simpa using hlt),Array.getElem_modify_self,h'];simp
    obtain ⟨a1,a2,a3,a4,a5,a6⟩:=Av5 vs (w.setCell ⟨b,o,none⟩ v) (cs.set o v) (o + 1) hb' (by simp;omega);refine ⟨a1,a2,a3,Nat.le_trans (by simp [World.setCell]) a4,fun k hk=>(a5 k hk).trans (Below.heap_setCell w ⟨b,o,none⟩ v k hk),?_⟩
    show (setCells (w.setCell ⟨b,o,none⟩ v) b (o + 1) vs).heap[b]? = _
    rw [a6];rw [AO1 v vs cs o (by omega)]

theorem Sto.store {x y:Operand} {T T0:TypeId} {b o sz:Nat} {g:Bool} {cs cs':List Value} {v:Value} {news':Blks} (hx:rev r x=some (.pointer (some ⟨b,o,none⟩))) (hy:rev r y=some v)
    (hu:Upd news b (.cells cs.toArray T0 (0,0)) (.cells cs'.toArray T0 (0,0)) news') (hT:tyB P T=some (g,sz)) (hs:Nat.beq (cellsL v).length sz=true) (hp:paste cs o (cellsL v)=some cs') :
    Sto P r W chg news { dst,op:=.store T x y,type:=ty,pos,after,guard:=gd } chg news' :=
  ⟨fun a w ha hm0=>by
    have hb:=(hm0.newd _ _ hu.mem).2;obtain ⟨p1,p2,p3⟩:=Ay7 hp;have hrun:=At5 (P:=P) (cellsL v) w cs o 0 hb (by simpa using p1) p2
    have hsz:(sizeOf T).run P w = .ok sz w:=by
      unfold tyB at hT
      split at hT
      · rename_i i d hi hd
        simp at hT
        simp [sizeOf,typeInfo,hi,hT.2]
      · cases hT
    have hlen:=Nat.eq_of_beq_eq_true hs;have e1:v.cells.toList=cellsL v:=by cases v <;> rfl
    have e2:v.cells.size=sz:=by rw [← hlen,← e1];simp
    have hst:(execOp a.eval { dst,op:=.store T x y,type:=ty,pos,after,guard:=gd }).run P w = .ok .skip (setCells w b o (cellsL v)):=by
      simp [execOp,ha.eval hx,ha.eval hy,Instr.storeAt,Instr.sureAddr,storeVar,hsz,e2,e1,hrun]
    obtain ⟨a1,a2,a3,a4,a5,a6⟩:=Av5 (cellsL v) w cs o hb p1;exact ⟨_,hst,hm0.upd_new hu a1 a2 a3 a4 (fun k _ hk=>a5 k hk) (by rw [a6,← p3])⟩⟩
theorem Al8 {x y:Operand} {T T0:TypeId} {b o sz:Nat} {g:Bool} {cs cs':List Value} {v:Value} {chg':Blks} (hx:rev r x=some (.pointer (some ⟨b,o,none⟩))) (hy:rev r y=some v)
    (hu:Upd chg b (.cells cs.toArray T0 (0,0)) (.cells cs'.toArray T0 (0,0)) chg') (hT:tyB P T=some (g,sz)) (hs:Nat.beq (cellsL v).length sz=true) (hp:paste cs o (cellsL v)=some cs') :
    Sto P r W chg news { dst,op:=.store T x y,type:=ty,pos,after,guard:=gd } chg' news :=
  ⟨fun a w ha hm0=>by
    have hb:=(hm0.chgd _ _ hu.mem).2;obtain ⟨p1,p2,p3⟩:=Ay7 hp;have hrun:=At5 (P:=P) (cellsL v) w cs o 0 hb (by simpa using p1) p2
    have hsz:(sizeOf T).run P w = .ok sz w:=by
      unfold tyB at hT
      split at hT
      · rename_i i d hi hd
        simp at hT
        simp [sizeOf,typeInfo,hi,hT.2]
      · cases hT
    have hlen:=Nat.eq_of_beq_eq_true hs;have e1:v.cells.toList=cellsL v:=by cases v <;> rfl
    have e2:v.cells.size=sz:=by rw [← hlen,← e1];simp
    have hst:(execOp a.eval { dst,op:=.store T x y,type:=ty,pos,after,guard:=gd }).run P w = .ok .skip (setCells w b o (cellsL v)):=by
      simp [execOp,ha.eval hx,ha.eval hy,Instr.storeAt,Instr.sureAddr,storeVar,hsz,e2,e1,hrun]
    obtain ⟨a1,a2,a3,a4,a5,a6⟩:=Av5 (cellsL v) w cs o hb p1;exact ⟨_,hst,hm0.upd_chg hu a1 a2 a3 a4 (fun k _ hk=>a5 k hk) (by rw [a6,← p3])⟩⟩



/-! ### Structs, slices, interface values -/
theorem Bp4:∀ (vs:List Value) (cs:List Value) (o k:Nat),o + k + vs.length≤cs.length →
    (vs.zipIdx k).foldl (fun (a:Array Value) (p:Value×Nat)=>a.setIfInBounds (o + p.2) p.1) cs.toArray=(cs.take (o + k)++(vs++cs.drop (o + k + vs.length))).toArray
  | [],cs,o,k,_=>by simp
  | v::vs,cs,o,k,h=>by
    simp only [List.length_cons] at h;have ih:=Bp4 vs (cs.set (o + k) v) o (k + 1) (by simp;omega);simp only [List.zipIdx_cons,List.foldl_cons];rw [show (cs.toArray.setIfInBounds (o + k) v)=(cs.set (o + k) v).toArray by simp];rw [ih,show o + (k + 1)=o + k + 1 by omega,AO1 v vs cs (o + k) (by omega)]
theorem BG4 (place:Nat→Option (Nat×Nat)) {cs:List Value} {i:Nat} {v:Value} {rest:List (Nat×Value)} {off sz:Nat} (hp:place i=some (off,sz)) (hs:(cellsL v).length=sz) (hl:off + sz≤cs.length) :
    Instr.fill place cs.toArray ((i,v)::rest)=Instr.fill place (cs.take off++(cellsL v++cs.drop (off + (cellsL v).length))).toArray rest:=by
  have e1:v.cells=(cellsL v).toArray:=by cases v <;> rfl
  simp only [Instr.fill,hp,e1];rw [if_neg (by simp [hs];exact hl)]
  have:=Bp4 (cellsL v) cs off 0 (by omega)
  simp only [Nat.add_zero] at this;rw [← this]
  congr 1
  simp only [Array.zipIdx_toArray,List.foldl_toArray']

def pasteAll (pl:List (Nat×Nat)):List Value→List (Nat×Value)→Option (List Value)
  | cs,[]=>some cs
  | cs,(i,v)::rest=>match pl[i]? with
    | none=>none
    | some (off,sz)=>match Nat.beq (cellsL v).length sz with
      | true=>match paste cs off (cellsL v) with
        | some cs'=>pasteAll pl cs' rest
        | none=>none
      | false=>none
theorem Av6 {pl:List (Nat×Nat)} {place:Nat→Option (Nat×Nat)} (hpl:∀ i p,pl[i]? = some p→place i=some p):∀ {parts:List (Nat×Value)} {cs cs':List Value},pasteAll pl cs parts=some cs'→Instr.fill place cs.toArray parts=some cs'.toArray
  | [],cs,cs',h=>by simp [pasteAll] at h;simp [Instr.fill,h]
  | (i,v)::rest,cs,cs',h=>by
    simp only [pasteAll] at h
    split at h
    · cases h
    · rename_i off sz hi
      split at h
      · rename_i hb
        split at h
        · rename_i c2 hp
          have hb':=Nat.eq_of_beq_eq_true hb;obtain ⟨p1,_,p3⟩:=Ay7 hp;rw [BG4 place (hpl _ _ hi) hb' (by omega),← p3];exact Av6 hpl h
        · cases h
      · cases h

def partsV (r:Regs):List (Nat×Operand)→Option (List (Nat×Value))
  | []=>some []
  | (i,x)::xs=>match rev r x with
    | none=>none
    | some v=>match partsV r xs with
      | none=>none
      | some vs=>some ((i,v)::vs)
theorem Agree.parts {a:Act} (h:Agree a r):∀ {xs:List (Nat×Operand)} {vs:List (Nat×Value)},partsV r xs=some vs→xs.map (fun p=>(p.1,a.eval p.2))=vs
  | [],vs,hx=>by simp [partsV] at hx;simp [hx]
  | (i,x)::xs,vs,hx=>by
    simp only [partsV] at hx
    split at hx
    · cases hx
    · rename_i v hv
      split at hx
      · cases hx
      · rename_i us hus
        cases hx
        simp [h.eval hv,h.parts hus]

theorem AO2 {P:Program} {w:World}:∀ (l:List Field) (pl:List (Nat×Nat)),(l.mapM fun f=>(P.info? f.type).map fun j=>(f.offset,j.size))=some pl →
    ((l.toArray.mapM fun f=>(do pure (f.offset,← sizeOf f.type):Sem (Nat×Nat)))).run P w = .ok pl.toArray w:=by
  intro l pl h
  have key:∀ (l:List Field) (pl:List (Nat×Nat)) (acc:Array (Nat×Nat)),(l.mapM fun f=>(P.info? f.type).map fun j=>(f.offset,j.size))=some pl →
      (l.foldlM (fun (bs:Array (Nat×Nat)) f=>bs.push <$> (do pure (f.offset,← sizeOf f.type):Sem (Nat×Nat))) acc).run P w = .ok (acc++pl.toArray) w:=by
    intro l
    induction l with
    | nil=>intro pl acc h;simp at h;subst h;simp
    | cons f l ih =>
      intro pl acc h;simp only [List.mapM_cons] at h
      cases hi:P.info? f.type with
      | none=>simp [hi] at h
      | some j =>
        cases hm:(l.mapM fun f=>(P.info? f.type).map fun j=>(f.offset,j.size)) with
        | none=>simp [hi,hm] at h
        | some pl' =>
          simp [hi,hm] at h
          subst h
          have:=ih pl' (acc.push (f.offset,j.size)) hm
          simp [List.foldlM_cons,sizeOf,typeInfo,hi] at this ⊢
          rw [this]
  have:=key l pl #[] h
  rw [Array.mapM_eq_foldlM];simpa using this

theorem Val.build {T:TypeId} {parts:List (Nat×Operand)} {vs:List (Nat×Value)} {zs cs:List Value} {pl:List (Nat×Nat)} (hp:partsV r parts=some vs) (hz:zeroB P T=some zs) (hpl:placesB P T=some pl) (hc:pasteAll pl zs vs=some cs) :
    Val P r W chg news { dst,op:=.build T parts.toArray,type:=ty,pos,after,guard:=gd } (.agg cs.toArray) :=
  ⟨fun a w ha hm0=>by
    have e1:=ha.parts hp
    have hzz:(zeroValue T).run P w = .ok (.agg zs.toArray) w∨∃ z,(zeroValue T).run P w = .ok z w∧z.cells=zs.toArray:=by
      right
      unfold zeroB at hz
      cases hi:P.info? T with
      | none=>simp [hi] at hz
      | some i =>
        cases hzi:i.zero with
        | none=>simp [hi,hzi] at hz
        | some z =>
          simp [hi,hzi] at hz
          exact ⟨z,by simp [zeroValue,typeInfo,hi,hzi],by rw [← hz]⟩
    have hz2:∃ z,(zeroValue T).run P w = .ok z w∧z.cells=zs.toArray:=by
      rcases hzz with h | h
      · exact ⟨_,h,rfl⟩
      · exact h
    obtain ⟨z,hz3,hz4⟩:=hz2;unfold placesB at hpl
    split at hpl
    · rename_i fs hfs
      have hm:=AO2 (P:=P) (w:=w) fs.toList pl hpl;simp only [Array.toArray_toList] at hm;have hf:=Av6 (pl:=pl) (place:=fun i=>pl[i]?) (fun i p h=>h) hc;have hm':Sem.run P (Array.mapM (fun f=>Prod.mk f.offset <$> sizeOf f.type) fs) w = .ok pl.toArray w:=hm;simp [execOp,Instr.build,hz3,hz4,run_underlying hfs,hm',e1,hf]
    · rename_i m e he
      cases hj:P.info? e with
      | none=>simp [hj] at hpl
      | some j =>
        simp only [hj,Option.map_some,Option.some.injEq] at hpl
        have hf:=Av6 (pl:=pl) (place:=fun i=>some (i * j.size,j.size)) (fun i p h=>by
          rw [← hpl] at h;simp only [List.getElem?_map,Option.map_eq_some_iff] at h;obtain ⟨k,hk,rfl⟩:=h
          have:=List.getElem?_eq_some_iff.1 hk
          obtain ⟨_,he⟩:=this;simp at he
          rw [he]) hc
        simp [execOp,Instr.build,hz3,hz4,run_underlying he,sizeOf,typeInfo,hj,e1,hf]
    · cases hpl⟩

end
end Go.Eng
/- The engine: slices that are made, interface values, calls, and the ends of functions. No program is in sight. -/
namespace Go.Eng
open Go Go.RowKit

section
variable {P:Program} {ops:Array Oper} {Q:Exit→Act→World→Prop} {n:Nat} {r:Regs} {ds:List Deferred} {W:World} {chg news:Blks} {rest:List Oper}
variable {d:Nat} {ty:TypeId} {pos:String} {after:Array Edge} {dst:Option Tmp} {gd:Option (Nat×Bool)}

/-! ### A slice that is written out -/
def flatV (sz:Nat):Nat→List (Nat×Value)→Option (List Value)
  | _,[]=>some []
  | k, (i, v) :: rest => match Nat.beq i k with
    | true=>match Nat.beq (cellsL v).length sz with
      | true=>match flatV sz (k + 1) rest with
        | some l=>some (cellsL v++l)
        | none=>none
      | false=>none
    | false=>none
theorem AY7 {sz:Nat}:∀ {k:Nat} {parts:List (Nat×Value)} {l cs:List Value},flatV sz k parts=some l→cs.length=(k + parts.length) * sz →
    Instr.fill (fun i=>some (i * sz,sz)) cs.toArray parts=some (cs.take (k * sz)++l).toArray
  | k,[],l,cs,h,hl=>by
    simp [flatV] at h
    subst h;simp only [List.length_nil,Nat.add_zero] at hl;simp [Instr.fill,← hl]
  | k, (i, v) :: rest, l, cs, h, hl => by
    simp only [flatV] at h
    split at h
    · rename_i hik
      have:=Nat.eq_of_beq_eq_true hik
      subst this
      split at h
      · rename_i hb
        split at h
        · rename_i l' hl'
          cases h
          have hb':=Nat.eq_of_beq_eq_true hb;simp only [List.length_cons] at hl;have e1:(i + (rest.length + 1)) * sz=i * sz + sz + rest.length * sz:=by rw [Nat.add_mul,Nat.add_mul];omega
          rw [BG4 _ rfl hb' (by omega)];have e2:(i + 1) * sz=i * sz + sz:=by rw [Nat.add_mul];omega
          rw [AY7 hl' (by simp only [List.length_append,List.length_take,List.length_drop,hb'];rw [show i + 1 + rest.length=i + (rest.length + 1) by omega,e1];omega)]
          congr 2
          rw [e2,← hb',List.take_append];have h3:(cs.take (i * (cellsL v).length)).length=i * (cellsL v).length:=by rw [List.length_take];rw [hb'];omega
          rw [h3,List.take_of_length_le (by omega),show i * (cellsL v).length + (cellsL v).length - i * (cellsL v).length=(cellsL v).length by omega,List.take_left];simp
        · cases h
      · cases h
    · cases h

theorem New.buildSlice {T e:TypeId} {len sz:Nat} {parts:List (Nat×Operand)} {vs:List (Nat×Value)} {zs cs:List Value} (hp:partsV r parts=some vs) (hT:slB P T=some (e,sz)) (hz:zeroB P e=some zs)
    (hl:Nat.beq parts.length len=true) (hs:Nat.ble (len * sz) 16777216=true) (hs0:Nat.beq (len * sz) 0=false) (hc:flatV sz 0 vs=some cs) :
    New P r W chg news { dst,op:=.buildSlice T len parts.toArray,type:=ty,pos,after,guard:=gd } (fun b=>.slice (some ⟨b,0,none⟩) len len) (.cells cs.toArray e (0,0)) :=
  ⟨fun a w ha _=>by
    have e1:=ha.parts hp;unfold slB at hT
    split at hT
    · rename_i e' hu
      cases hj:P.info? e' with
      | none=>simp [hj] at hT
      | some j =>
        simp only [hj,Option.map_some,Option.some.injEq,Prod.mk.injEq] at hT;obtain ⟨rfl,rfl⟩:=hT;have hle:=Nat.le_of_ble_eq_true hs;have hne:¬ len * j.size=0:=by intro e;rw [e] at hs0;simp at hs0
        have hlen:=Nat.eq_of_beq_eq_true hl;have hvl:vs.length=len:=by rw [← e1];simpa using hlen
        cases hzi:j.zero with
        | none=>unfold zeroB at hz;simp [hj,hzi] at hz
        | some z =>
          have hf:=AY7 (cs:=((Array.range (len * j.size)).map (z.cells[· % z.cells.size]!)).toList) hc (by simp [hvl]);simp only [Array.toArray_toList,Nat.zero_mul,List.take_zero,List.nil_append] at hf;have e3:(len * j.size > 2 ^ 24)=False:=by simp;omega
          have hrun:(Instr.buildSlice T len vs.toArray).run P w = .ok (.slice (some ⟨w.heap.size,0,none⟩) len len) (w.alloc (.cells cs.toArray e')):=by
            unfold Instr.buildSlice;simp [run_underlying hu,sizeOf,typeInfo,hj,e3,hne,zeroValue,hzi,newRow,newObj,Sem.run,hf]
          simp [execOp,e1,hrun]
    · cases hT⟩

theorem Val.makeInterface {x:Operand} {T:TypeId} {v:Value} (hx:rev r x=some v) (hi:(P.underlying T).any (fun t=>match t with | .interface _=>false | _=>true)=true) :
    Val P r W chg news { dst,op:=.makeInterface T x,type:=ty,pos,after,guard:=gd } (.iface T v) :=
  ⟨fun a w ha hm0=>by
    cases hu:P.underlying T with
    | none=>simp [hu] at hi
    | some t =>
      simp [hu] at hi
      cases t <;> simp at hi <;> simp [execOp,Instr.makeInterface,run_underlying hu,ha.eval hx]⟩

theorem Ad7 {x:Operand} {T e:TypeId} {sz len cap:Nat} {p:Option Addr} (hx:rev r x=some (.slice p len cap)) (hT:slB P T=some (e,sz)) :
    Val P r W chg news { dst,op:=.call { callee:=.builtin .len,args:=#[x],argTypes:=#[T] },type:=ty,pos,after,guard:=gd } (.int .i64 (len:Int)) :=
  ⟨fun a w ha hm0=>by
    unfold slB at hT
    split at hT
    · rename_i e' hu
      rw [BigFrame.execOp_builtin,BigFrame.builtin_len];simp [ha.eval hx,Builtin.len_,run_underlying hu,goInt]
    · cases hT⟩
theorem BB3 {x:Operand} {T:TypeId} {b:ByteArray} (hx:rev r x=some (.string b)) (hT:P.underlying T=some .string) :
    Val P r W chg news { dst,op:=.call { callee:=.builtin .len,args:=#[x],argTypes:=#[T] },type:=ty,pos,after,guard:=gd } (.int .i64 (b.size:Int)) :=
  ⟨fun a w ha hm0=>by
    rw [BigFrame.execOp_builtin,BigFrame.builtin_len];simp [ha.eval hx,Builtin.len_,run_underlying hT,goInt]⟩
theorem BB4 {x:Operand} {S T:TypeId} {ks k:IntKind} {p:Int} {u:TypeDesc} (hx:rev r x=some (.int ks p)) (hS:P.underlying S=some u) (hT:P.underlying T=some (.int k)) (hr:k.wrap p=p) :
    Val P r W chg news { dst,op:=.convert S T x,type:=ty,pos,after,guard:=gd } (.int k p) :=
  ⟨fun a w ha hm0=>by simp [execOp,ha.eval hx,convert,run_underlying hS,run_underlying hT,Conv.intToInt,hr]⟩

/-! ### Calls -/
def Enters (P:Program) (f:FuncId):Prop:=∀ args w,(callFunc f args).run P w = .ok (.enter f args) w

theorem Aa3 {f:FuncId} {fn:Func} {c:Code} (hf:P.funcs[f]? = some fn) (hname:(fn.name == "runtime.NumGoroutine")=false) (hb:fn.body=some c):Enters P f:=fun args w=>by
  have hn:¬ fn.name = "runtime.NumGoroutine":=by simpa using hname
  simp [callFunc,hf,hn,hb]
def Pure (v:Value) (W:World) (e:Ending) (w:World):Prop:=e = .returned v∧Mem W [] [] w
def Try (mis:Int→Value) (x:Except Int Value) (W:World) (e:Ending) (w:World):Prop :=
  (match x with | .ok v=>e = .returned v | .error k=>e = .panicked [{ v:=mis k,recovered:=false }])∧Mem W [] [] w
def Turns (b:Nat) (o:Obj) (v:Value) (W:World) (e:Ending) (w:World):Prop:=e = .returned v∧Mem W [(b,o)] [] w
def News {β:Type} (v:β→Value) (nw:β→Blks) (W:World) (e:Ending) (w:World):Prop:=∃ b:β,e = .returned (v b)∧Mem W [] (nw b) w

theorem RunL.call {o:Oper} {f:FuncId} {args:Array Value} {R:World→Ending→World→Prop} (hg:guardB ops r o.guard=some true) (hd:o.dst=some d)
    (he:∀ a w,St n r ds W chg news a w→(execOp a.eval o).run P w = .ok (.enter f args) w)
    (hc:∀ w,Mem W chg news w→Calls P f args w (R w))
    (hk:∀ a w e w',St n r ds W chg news a w→R w e w'→match e with | .returned v=>wpList P ops Q rest (a.put (some d) v) w' | .panicked c=>Q (.panic c) a w' | .outgrown=>LetsOut Q) :
    RunL P ops Q n (o::rest) r ds W chg news:=fun a w s =>
  Ay3 (Ae3 s.agree hg) fun K hK=>by
    unfold Oper.wp;rw [he a w s,Oper.upon_enter];refine (hc w s.mem).mono fun e w' hR=>?_
    have:=hk a w e w' s hR
    cases e with
    | returned v=>rw [hd];exact hK _ _ this
    | panicked c=>exact this
    | outgrown=>exact this

structure IsCall (P:Program) (r:Regs) (o:Oper) (f:FuncId) (args:Array Value):Prop where
  runs:∀ a w,Agree a r→(execOp a.eval o).run P w = .ok (.enter f args) w

theorem Ab7 {f:FuncId} {xs:List Operand} {vs:List Value} {ats:Array TypeId} {dst:Option Tmp} {gd:Option (Nat×Bool)} (hx:revs r xs=some vs) (he:Enters P f) :
    IsCall P r { dst,op:=.call { callee:=.value (.func f),args:=xs.toArray,argTypes:=ats },type:=ty,pos,after,guard:=gd } f vs.toArray :=
  ⟨fun a w ha=>by
    have h1:=ha.evals hx;simp [execOp,resolve,h1,Deferred.ofValue,Act.eval,invoke]
    exact he _ _⟩
theorem Ac1 {x:Operand} {f:FuncId} {first cap:Array Value} {xs:List Operand} {vs:List Value} {ats:Array TypeId} {dst:Option Tmp} {gd:Option (Nat×Bool)} (hv:rev r x=some (.func (.func f) first cap)) (hx:revs r xs=some vs) (he:Enters P f) :
    IsCall P r { dst,op:=.call { callee:=.value x,args:=xs.toArray,argTypes:=ats },type:=ty,pos,after,guard:=gd } f (first.toList++vs++cap.toList).toArray :=
  ⟨fun a w ha=>by
    have h1:=ha.evals hx;simp [execOp,resolve,h1,ha.eval hv,Deferred.ofValue,invoke]
    rw [show first++(vs.toArray++cap)=(first.toList++(vs++cap.toList)).toArray by apply Array.ext';simp];exact he _ _⟩
theorem Aq8 {x:Operand} {f:FuncId} {name:String} {T:TypeId} {v v':Value} {xs:List Operand} {vs:List Value} {ats:Array TypeId} {dst:Option Tmp} {gd:Option (Nat×Bool)} (hv:rev r x=some (.iface T v)) (hx:revs r xs=some vs)
    (hm:∀ w,(method (P.types.size + Made.depth) T v name).run P w = .ok (f,v') w) (he:Enters P f) :
    IsCall P r { dst,op:=.call { callee:=.invoke x name,args:=xs.toArray,argTypes:=ats },type:=ty,pos,after,guard:=gd } f (v'::vs).toArray :=
  ⟨fun a w ha=>by
    have h1:=ha.evals hx;have h2:=hm w;simp [execOp,resolve,h1,ha.eval hv,invoke,callMethod,h2]
    exact he _ _⟩

theorem Ab1 {o:Oper} {f:FuncId} {args:Array Value} {v:Value} (hi:IsCall P r o f args) (hg:guardB ops r o.guard=some true) (hd:o.dst=some d) (hn:Nat.ble (d + 1) n=true)
    (hc:∀ w,Mem W chg news w→Calls P f args w (Pure v w)) (h:RunL P ops Q n rest ((d,v)::r) ds W chg news):RunL P ops Q n (o::rest) r ds W chg news :=
  RunL.call hg hd (fun a w s=>hi.runs a w s.agree) hc (fun a w e w' s hR=>by
    obtain ⟨rfl,hm⟩:=hR;have s2:=s.put (Nat.le_of_ble_eq_true hn) v;exact h _ _ ⟨s2.size,s2.agree,s2.defers,s.mem.pass hm⟩)
theorem Af5 {o:Oper} {f:FuncId} {args:Array Value} {mis:Int→Value} {x:Except Int Value} (hi:IsCall P r o f args) (hg:guardB ops r o.guard=some true) (hd:o.dst=some d) (hn:Nat.ble (d + 1) n=true)
    (hc:∀ w,Mem W chg news w→Calls P f args w (Try mis x w)) (herr:∀ k,x = .error k→RunE Q n (.panic [{ v:=mis k,recovered:=false }]) r ds W chg news)
    (hok:∀ v,x = .ok v→RunL P ops Q n rest ((d,v)::r) ds W chg news):RunL P ops Q n (o::rest) r ds W chg news :=
  RunL.call hg hd (fun a w s=>hi.runs a w s.agree) hc (fun a w e w' s hR=>by
    obtain ⟨he,hm⟩:=hR
    cases x with
    | ok v =>
      subst he;have s2:=s.put (Nat.le_of_ble_eq_true hn) v;exact hok v rfl _ _ ⟨s2.size,s2.agree,s2.defers,s.mem.pass hm⟩
    | error k =>
      subst he;exact herr k rfl a w' ⟨s.size,s.agree,s.defers,s.mem.pass hm⟩)
theorem Ai2 {β:Type} {o:Oper} {f:FuncId} {args:Array Value} {v:β→Value} {nw:β→Blks} (hi:IsCall P r o f args) (hg:guardB ops r o.guard=some true) (hd:o.dst=some d) (hn:Nat.ble (d + 1) n=true)
    (hc:∀ w,Mem W chg news w→Calls P f args w (News v nw w)) (h:∀ b,RunL P ops Q n rest ((d,v b)::r) ds W chg (nw b++news)):RunL P ops Q n (o::rest) r ds W chg news :=
  RunL.call hg hd (fun a w s=>hi.runs a w s.agree) hc (fun a w e w' s hR=>by
    obtain ⟨b,rfl,hm⟩:=hR;have s2:=s.put (Nat.le_of_ble_eq_true hn) (v b);exact h b _ _ ⟨s2.size,s2.agree,s2.defers,s.mem.trans hm⟩)

theorem Mem.turn_new {w w':World} {b:Nat} {o o':Obj} {news':Blks} (h:Mem W chg news w) (hu:Upd news b o o' news') (h':Mem w [(b,o')] [] w'):Mem W chg news' w' :=
  h.upd_new hu h'.os h'.tape h'.output h'.size (fun k hk hne=>h'.old k hk (fun o'' hm=>by simp at hm;exact hne hm.1)) (h'.chgd b o' (by simp)).2
theorem AZ7 {o:Oper} {f:FuncId} {args:Array Value} {v:Value} {b:Nat} {ob ob':Obj} {news':Blks} (hi:IsCall P r o f args) (hg:guardB ops r o.guard=some true) (hd:o.dst=some d) (hn:Nat.ble (d + 1) n=true)
    (hu:Upd news b ob ob' news') (hc:∀ w,Mem W chg news w→Calls P f args w (Turns b ob' v w)) (h:RunL P ops Q n rest ((d,v)::r) ds W chg news'):RunL P ops Q n (o::rest) r ds W chg news :=
  RunL.call hg hd (fun a w s=>hi.runs a w s.agree) hc (fun a w e w' s hR=>by
    obtain ⟨rfl,hm⟩:=hR;have s2:=s.put (Nat.le_of_ble_eq_true hn) v;exact h _ _ ⟨s2.size,s2.agree,s2.defers,s.mem.turn_new hu hm⟩)

/-! ### Panics, deferred calls -/
theorem RunL.panic {x:Operand} {T:TypeId} {v:Value} {dst:Option Tmp} (hx:rev r x=some (.iface T v)) (h:RunE Q n (.panic [{ v:=.iface T v,recovered:=false }]) r ds W chg news) :
    RunL P ops Q n ({ dst,op:=.call { callee:=.builtin .panic,args:=#[x],argTypes:=#[] },type:=ty,pos,after,guard:=none }::rest) r ds W chg news:=fun a w s =>
  wpList_plain rfl fun K hK=>by
    unfold Oper.wp;rw [BigFrame.execOp_builtin,BigFrame.builtin_panic];simp [s.agree.eval hx,Instr.panic,goPanic,Sem.run]
    exact h a w s
theorem Ap7 {x:Operand} {T:TypeId} {v:Value} {dst:Option Tmp} (hx:rev r x=some (.iface T v)) (h:RunE Q n (.panic [{ v:=.iface T v,recovered:=false }]) r ds W chg news) :
    RunL P ops Q n ({ dst,op:=.panic x,type:=ty,pos,after,guard:=none }::rest) r ds W chg news:=fun a w s =>
  wpList_plain rfl fun K hK=>by
    have e:(execOp a.eval { dst,op:=.panic x,type:=ty,pos,after,guard:=none }).run P w = .halt (.panic (.iface T v)) w:=by
      simp [execOp,s.agree.eval hx,Instr.panic,goPanic,Sem.run]
    unfold Oper.wp;rw [e,Oper.upon_panic];exact h a w s
theorem RunL.defer {f:FuncId} {xs:List Operand} {vs:List Value} {ats:Array TypeId} (hx:revs r xs=some vs)
    (h:RunL P ops Q n rest r ({ target:=.fn (.func f) #[],args:=vs.toArray }::ds) W chg news) :
    RunL P ops Q n ({ dst:=none,op:=.defer { callee:=.value (.func f),args:=xs.toArray,argTypes:=ats },type:=ty,pos,after,guard:=none }::rest) r ds W chg news:=fun a w s =>
  wpList_plain rfl fun K hK=>by
    have h1:=s.agree.evals hx
    have e:(execOp a.eval { dst:=none,op:=.defer { callee:=.value (.func f),args:=xs.toArray,argTypes:=ats },type:=ty,pos,after,guard:=none }).run P w = .ok (.defer { target:=.fn (.func f) #[],args:=vs.toArray }) w:=by
      simp [execOp,resolve,h1,Deferred.ofValue,Act.eval]
    unfold Oper.wp;rw [e,Oper.upon_defer];exact hK _ _ (h _ _ ⟨s.size,s.agree,by rw [← s.defers];rfl,s.mem⟩)

/-! ### Ends -/
inductive ResV (P:Program) (r:Regs) (bl:Blks):ResultVar→Value→Prop
  | tmp {t:Nat} {v:Value} (h:rget r t=some v):ResV P r bl (.tmp t) v
  | agg {a b o sz:Nat} {T T0:TypeId} {cs vs:List Value} {fr:Nat×Nat} (h:rget r a=some (.pointer (some ⟨b,o,none⟩))) (hm:(b,.cells cs.toArray T0 fr)∈bl) (hT:tyB P T=some (true,sz)) (hv:grab cs o sz=some vs):ResV P r bl (.cell a T) (.agg vs.toArray)
  | one {a b o sz:Nat} {T T0:TypeId} {cs:List Value} {v:Value} {fr:Nat×Nat} (h:rget r a=some (.pointer (some ⟨b,o,none⟩))) (hm:(b,.cells cs.toArray T0 fr)∈bl) (hT:tyB P T=some (false,sz)) (hv:nth cs o=some v):ResV P r bl (.cell a T) v

def readRes (tmps:Array Value):ResultVar→Sem Value
  | .tmp t=>pure (tmps.getD t undef)
  | .cell a t=>do loadVar t (← asAddr (tmps.getD a undef))

theorem ResV.run {bl:Blks} {x:ResultVar} {v:Value} (h:ResV P r bl x v) {a:Act} {w:World} (ha:Agree a r) (hm:∀ b o,(b,o)∈bl→w.heap[b]? = some o):(readRes a.tmps x).run P w = .ok v w:=by
  cases h with
  | tmp h=>have:=ha _ _ h;simp [readRes,this]
  | agg h hb hT hv =>
    have h1:=ha _ _ h;obtain ⟨g1,g2⟩:=AE0 hv;have hc:=hm _ _ hb
    have:=An5 (P:=P) (w:=w) (T:=_) (a:=⟨_,_,none⟩) (by rw [g1];exact hT) (fun j hj=>by rw [add_plain,Ae6 hc,g2 j (by omega)];simp [hj])
    simp [readRes,h1,asAddr,this]
  | one h hb hT hv =>
    have h1:=ha _ _ h;have hc:=hm _ _ hb
    have:=Ah4 (P:=P) (w:=w) (a:=⟨_,_,none⟩) hT (by rw [Ae6 hc,← AW9];exact hv)
    simp [readRes,h1,asAddr,this]

theorem Ay5 (fn:Func) (tmps:Array Value):results fn tmps=(do let vs ← fn.results.mapM (readRes tmps);pure (if h:vs.size=1 then vs[0] else .tuple vs)):=by
  unfold results
  congr 1

theorem Bj9 {fn:Func} {tmps:Array Value} {w:World} (hr:fn.results = #[]):(results fn tmps).run P w = .ok (.tuple #[]) w:=results_none hr tmps P w
theorem Bj8 {fn:Func} {tmps:Array Value} {w:World} {x:ResultVar} {v:Value} (hr:fn.results = #[x]) (h:(readRes tmps x).run P w = .ok v w):(results fn tmps).run P w = .ok v w:=by
  rw [Ay5,hr];simp [h]
theorem Bj7 {fn:Func} {tmps:Array Value} {w:World} {x y:ResultVar} {v u:Value} (hr:fn.results = #[x,y]) (h:(readRes tmps x).run P w = .ok v w) (h2:(readRes tmps y).run P w = .ok u w):(results fn tmps).run P w = .ok (.tuple #[v,u]) w:=by
  rw [Ay5,hr];simp [h,h2]
theorem Bj6 {fn:Func} {tmps:Array Value} {w:World} {x y z:ResultVar} {v u t:Value} (hr:fn.results = #[x,y,z]) (h:(readRes tmps x).run P w = .ok v w) (h2:(readRes tmps y).run P w = .ok u w) (h3:(readRes tmps z).run P w = .ok t w):(results fn tmps).run P w = .ok (.tuple #[v,u,t]) w:=by
  rw [Ay5,hr];simp [h,h2,h3]
theorem Bj5 {fn:Func} {tmps:Array Value} {w:World} {x y z x4:ResultVar} {v u t v4:Value} (hr:fn.results = #[x,y,z,x4]) (h:(readRes tmps x).run P w = .ok v w) (h2:(readRes tmps y).run P w = .ok u w) (h3:(readRes tmps z).run P w = .ok t w) (h4:(readRes tmps x4).run P w = .ok v4 w):(results fn tmps).run P w = .ok (.tuple #[v,u,t,v4]) w:=by
  rw [Ay5,hr];simp [h,h2,h3,h4]

inductive ResVs (P:Program) (r:Regs) (bl:Blks) (fn:Func):Value→Prop
  | r0 (h:fn.results = #[]):ResVs P r bl fn (.tuple #[])
  | r1 {x:ResultVar} {v:Value} (h:fn.results = #[x]) (hx:ResV P r bl x v):ResVs P r bl fn v
  | r2 {x y:ResultVar} {v u:Value} (h:fn.results = #[x,y]) (hx:ResV P r bl x v) (hy:ResV P r bl y u):ResVs P r bl fn (.tuple #[v,u])
  | r3 {x y z:ResultVar} {v u t:Value} (h:fn.results = #[x,y,z]) (hx:ResV P r bl x v) (hy:ResV P r bl y u) (hz:ResV P r bl z t):ResVs P r bl fn (.tuple #[v,u,t])
  | r4 {x y z x4:ResultVar} {v u t v4:Value} (h:fn.results = #[x,y,z,x4]) (hx:ResV P r bl x v) (hy:ResV P r bl y u) (hz:ResV P r bl z t) (h4:ResV P r bl x4 v4):ResVs P r bl fn (.tuple #[v,u,t,v4])
theorem ResVs.run {bl:Blks} {fn:Func} {v:Value} (h:ResVs P r bl fn v) {a:Act} {w:World} (ha:Agree a r) (hm:∀ b o,(b,o)∈bl→w.heap[b]? = some o):(results fn a.tmps).run P w = .ok v w:=by
  cases h with
  | r0 h=>exact Bj9 h
  | r1 h hx=>exact Bj8 h (hx.run ha hm)
  | r2 h hx hy=>exact Bj7 h (hx.run ha hm) (hy.run ha hm)
  | r3 h hx hy hz=>exact Bj6 h (hx.run ha hm) (hy.run ha hm) (hz.run ha hm)
  | r4 h hx hy hz h4=>exact Bj5 h (hx.run ha hm) (hy.run ha hm) (hz.run ha hm) (h4.run ha hm)

theorem RunE.ret {fn:Func} {R:Ending→World→Prop} {v:Value} (hv:ResVs P r (chg++news) fn v) (hR:∀ w,Mem W chg news w→R (.returned v) w):RunE (bodyPost P fn R) n .ret r [] W chg news:=fun _ w s =>
  ⟨s.defers,v,hv.run s.agree (fun _ _ h=>s.mem.at h),hR w s.mem⟩
theorem Ah7 {fn:Func} {R:Ending→World→Prop} {v:Value} (hv:ResVs P r (chg++news) fn v) (hR:∀ w,Mem W chg news w→R (.returned v) w):RunE (bodyPost P fn R) n .normal r [] W chg news:=fun _ w s =>
  ⟨s.defers,v,hv.run s.agree (fun _ _ h=>s.mem.at h),hR w s.mem⟩
theorem Aa4 {fn:Func} {v v0:Value} (hv:ResVs P r news fn v) (he:v=v0):RunE (bodyPost P fn (Pure v0 W)) n .ret r [] W [] news :=
  RunE.ret (chg:=[]) hv (fun _ hm=>⟨by rw [he],hm.drop⟩)
theorem Bt9 {fn:Func} {v:Value} {mis:Int→Value} {x:Except Int Value} (hv:ResVs P r news fn v) (he:x = .ok v):RunE (bodyPost P fn (Try mis x W)) n .ret r [] W [] news :=
  RunE.ret (chg:=[]) hv (fun _ hm=>⟨by rw [he],hm.drop⟩)
theorem Ax7 {fn:Func} {v:Value} {mis:Int→Value} {x:Except Int Value} (hv:ResVs P r news fn v) (he:x = .ok v):RunE (bodyPost P fn (Try mis x W)) n .normal r [] W [] news :=
  Ah7 (chg:=[]) hv (fun _ hm=>⟨by rw [he],hm.drop⟩)
theorem Am8 {fn:Func} {mis:Int→Value} {x:Except Int Value} {k:Int} (he:x = .error k):RunE (bodyPost P fn (Try mis x W)) n (.panic [{ v:=mis k,recovered:=false }]) r [] W [] news:=fun _ w s =>
  ⟨s.defers,by rw [he],s.mem.drop⟩
theorem Aa7 {K:Act→World→Prop} {c:List PanicEntry} (h:RunE Q n (.panic c) r ds W chg news):RunE (Exit.then K Q) n (.panic c) r ds W chg news:=fun a w s=>h a w s
theorem Ad1 {id:Nat} {c:List PanicEntry} (h:RunE Q n (.panic c) r ds W chg news):RunE (Exit.inBlock id Q) n (.panic c) r ds W chg news:=fun a w s=>h a w s

def args0:Nat→List Value→Regs
  | _,[]=>[]
  | k,v::vs=>(k,v)::args0 (k + 1) vs
theorem AW4:∀ (vs:List Value) (k t:Nat) (v:Value),rget (args0 k vs) t=some v→k≤t∧vs[t - k]? = some v
  | [],k,t,v,h=>by simp [args0,rget] at h
  | u::vs,k,t,v,h=>by
    simp only [args0,rget] at h
    split at h
    · rename_i he
      have:=Nat.eq_of_beq_eq_true he
      subst this
      cases h
      simp
    · obtain ⟨h1,h2⟩:=AW4 vs (k + 1) t v h
      refine ⟨by omega,?_⟩
      rw [show t - k=(t - (k + 1)) + 1 by omega];simpa using h2
theorem Av2 {vs:List Value} {n:Nat} (hn:vs.length≤n) {chg:Blks} (hm:Mem W chg [] W):St n (args0 0 vs) [] W chg [] { tmps:=vs.toArray++Array.replicate (n - vs.toArray.size) undef,defers:=[] } W :=
  ⟨by simp;omega,fun t v h=>by
    obtain ⟨_,h2⟩:=AW4 vs 0 t v h;simp only [Nat.sub_zero] at h2
    have:=(List.getElem?_eq_some_iff.1 h2).1
    simp only [Array.getElem?_append,List.size_toArray,this,if_true,List.getElem?_toArray,h2],rfl,hm⟩
theorem Aa2 {f:FuncId} {fn:Func} {c:Code} {vs:List Value} {R:Ending→World→Prop} (hf:P.funcs[f]? = some fn) (hb:fn.body=some c) (hn:Nat.ble vs.length fn.ntmps=true)
    (h:RunC P (bodyPost P fn R) fn.ntmps c (args0 0 vs) [] W [] []):Calls P f vs.toArray W R :=
  calls_of_wp hf hb (h _ _ (Av2 (Nat.le_of_ble_eq_true hn) (Mem.refl W)))
theorem Aj0 {f:FuncId} {fn:Func} {c:Code} {vs:List Value} {R:Ending→World→Prop} {b:Nat} {o:Obj} (hbo:W.heap[b]? = some o) (hf:P.funcs[f]? = some fn) (hb:fn.body=some c) (hn:Nat.ble vs.length fn.ntmps=true)
    (h:RunC P (bodyPost P fn R) fn.ntmps c (args0 0 vs) [] W [(b,o)] []):Calls P f vs.toArray W R :=
  calls_of_wp hf hb (h _ _ (Av2 (Nat.le_of_ble_eq_true hn) (Mem.start hbo)))
end
end Go.Eng
/- The engine: parts of a region whose ways meet again, and regions that draw their order. No program is in sight. -/
namespace Go.Eng
open Go Go.RowKit

inductive Take:Nat×Obj→Blks→Blks→Prop
  | here {x:Nat×Obj} {l:Blks}:Take x (x::l) l
  | there {x y:Nat×Obj} {l l':Blks} (h:Take x l l'):Take x (y::l) (y::l')
inductive Pick:Blks→Blks→Prop
  | nil {l:Blks}:Pick [] l
  | cons {b:Nat} {o o':Obj} {r l l':Blks} (h:Take (b,o) l l') (he:o=o') (hr:Pick r l'):Pick ((b,o')::r) l
theorem Pick.refl:∀ (l:Blks),Pick l l
  | []=>.nil
  | (_,_)::l=>.cons .here rfl (Pick.refl l)
theorem Take.mem {x:Nat×Obj} {l l':Blks} (h:Take x l l'):x∈l:=by induction h <;> simp [*]
theorem Take.sub {x:Nat×Obj} {l l':Blks} (h:Take x l l'):l'.Sublist l:=by
  induction h with
  | here=>exact List.sublist_cons_self _ _
  | there _ ih=>exact ih.cons_cons _
theorem Take.perm {x:Nat×Obj} {l l':Blks} (h:Take x l l'):l.Perm (x::l'):=by
  induction h with
  | here=>exact List.Perm.refl _
  | there _ ih=>exact (ih.cons _).trans (List.Perm.swap _ _ _)
theorem Pick.mem {r l:Blks} (h:Pick r l):∀ x∈r,x∈l:=by
  induction h with
  | nil=>intro x hx;cases hx
  | cons h he _ ih =>
    intro x hx;subst he
    rcases List.mem_cons.1 hx with rfl | hx
    · exact h.mem
    · exact h.sub.mem (ih x hx)
theorem Pick.nodup {r l:Blks} (h:Pick r l) (hn:(l.map (·.1)).Nodup):(r.map (·.1)).Nodup:=by
  induction h with
  | nil=>simp
  | cons h he hr ih =>
    subst he;have h2:=(h.perm.map (·.1)).nodup_iff.1 hn;simp only [List.map_cons,List.nodup_cons] at h2 ⊢;refine ⟨fun hm=>h2.1 ?_,ih h2.2⟩
    obtain ⟨x,hx,he⟩:=List.mem_map.1 hm;exact List.mem_map.2 ⟨x,hr.mem x hx,he⟩
theorem Mem.pick {W w:World} {chg news news':Blks} (h:Mem W chg news w) (hp:Pick news' news):Mem W chg news' w :=
  { h with
    newd:=fun b o hb=>h.newd b o (hp.mem _ hb)
    once:=by
      have:=h.once
      simp only [List.map_append,List.nodup_append] at this ⊢;refine ⟨this.1,hp.nodup this.2.1,fun x hx y hy=>?_⟩
      obtain ⟨z,hz,rfl⟩:=List.mem_map.1 hy;exact this.2.2 x hx _ (List.mem_map.2 ⟨z,hp.mem z hz,rfl⟩) }

section
variable {P:Program} {ops:Array Oper} {Q:Exit→Act→World→Prop} {n:Nat} {r:Regs} {ds:List Deferred} {W:World} {chg news:Blks} {rest:List Oper}
variable {d:Nat}

/-! ### A part of a list of operations, both of whose ways meet again -/
def SegQ (Q:Exit→Act→World→Prop) (K:Act→World→Prop):Exit→Act→World→Prop
  | .normal,a,w=>K a w
  | e,a,w=>Q e a w
theorem Ci7 {o:Oper} {a:Act} {K K' L:Act→World→Prop} (h:∀ a w,K a w→K' a w) {x:Result Next} (hh:o.upon P a K (SegQ Q L) x):o.upon P a K' Q x:=by
  cases x with
  | ok nx w' =>
    cases nx <;> simp only [Oper.upon] at hh ⊢ <;>
      first
        | exact h _ _ hh
        | exact hh.mono (fun e w'' he=>by cases e <;> first | exact h _ _ he | exact he)
        | exact Rows.mono hh (fun _ _ he=>h _ _ he)
  | halt x w'=>cases x <;> simp only [Oper.upon] at hh ⊢ <;> exact hh
theorem Av1 {K:Act→World→Prop} {l2:List Oper} (hK:∀ a w,K a w→wpList P ops Q l2 a w):∀ (l:List Oper) (a:Act) (w:World),wpList P ops (SegQ Q K) l a w→wpList P ops Q (l++l2) a w
  | [],a,w,h=>hK a w h
  | o::l,a,w,h=>by
    simp only [wpList,List.cons_append] at h ⊢
    split
    · rename_i hw
      rw [if_pos hw] at h
      rcases h with h | ⟨h1,h2⟩
      · exact .inl (Ci7 (Av1 hK l) h)
      · exact .inr ⟨h1,h2⟩
    · rename_i hw
      rw [if_neg hw] at h;exact Av1 hK l _ _ h
theorem Bt6 {l:List Oper} {q:Regs} (k:Nat) (h1:RunL P ops (SegQ Q (St n q ds W chg news)) n (l.take k) r ds W chg news) (h2:RunL P ops Q n (l.drop k) q ds W chg news):RunL P ops Q n l r ds W chg news:=by
  have h:RunL P ops Q n (l.take k++l.drop k) r ds W chg news:=fun a w s=>Av1 h2 _ a w (h1 a w s)
  rwa [List.take_append_drop] at h
theorem Af6 {q:Regs} {news':Blks} (hs:Sub q r) (hn:news'.Sublist news):RunL P ops (SegQ Q (St n q ds W chg news')) n [] r ds W chg news:=fun _ _ s=>s.sub hs hn

theorem Sub.skip {q r:Regs} {d:Nat} {v:Value} (h:rget q d=none) (hs:Sub q r):Sub q ((d,v)::r):=by
  intro t u ht;simp only [rget]
  split
  · rename_i he
    have:=Nat.eq_of_beq_eq_true he
    subst this;rw [h] at ht;cases ht
  · exact hs t u ht
theorem Ai7 {q r:Regs} {d:Nat} {u v:Value} (h:rget q d=some u) (he:u=v) (hs:Sub q r):Sub q ((d,v)::r):=by
  intro t u' ht;simp only [rget]
  split
  · rename_i hb
    have:=Nat.eq_of_beq_eq_true hb
    subst this;rw [h] at ht;cases ht;rw [he]
  · exact hs t u' ht
theorem Agree.know {a:Act} {d:Nat} {u v:Value} (ha:Agree a r) (h:rget r d=some u) (he:u=v):Agree a ((d,v)::r):=by
  intro t u' ht;simp only [rget] at ht
  split at ht
  · rename_i hb
    have:=Nat.eq_of_beq_eq_true hb
    subst this
    cases ht
    rw [← he];exact ha _ _ h
  · exact ha _ _ ht
theorem St.know {a:Act} {w:World} {d:Nat} {u v:Value} (s:St n r ds W chg news a w) (h:rget r d=some u) (he:u=v):St n ((d,v)::r) ds W chg news a w:=⟨s.size,s.agree.know h he,s.defers,s.mem⟩

theorem Ab3 {l:List Oper} {b x:Bool} {dj dp:Nat} (k:Nat) (hj:rget r dj=some (.bool b))
    (hyes:b=true→RunL P ops (SegQ Q (St n ((dp,.bool x)::r) ds W chg news)) n (l.take k) ((dj,.bool true)::r) ds W chg news)
    (hno:b=false→RunL P ops (SegQ Q (St n ((dp,.bool false)::r) ds W chg news)) n (l.take k) ((dj,.bool false)::r) ds W chg news)
    (h2:RunL P ops Q n (l.drop k) ((dp,.bool (b && x))::r) ds W chg news):RunL P ops Q n l r ds W chg news:=by
  refine Bt6 k ?_ h2
  intro a w s
  cases b with
  | true=>exact hyes rfl a w (s.know hj rfl)
  | false=>exact hno rfl a w (s.know hj rfl)
theorem Ae1 {l:List Oper} {b x:Bool} {dj dp:Nat} (k:Nat) (hj:rget r dj=some (.bool b))
    (hyes:b=false→RunL P ops (SegQ Q (St n ((dp,.bool x)::r) ds W chg news)) n (l.take k) ((dj,.bool false)::r) ds W chg news)
    (hno:b=true→RunL P ops (SegQ Q (St n ((dp,.bool true)::r) ds W chg news)) n (l.take k) ((dj,.bool true)::r) ds W chg news)
    (h2:RunL P ops Q n (l.drop k) ((dp,.bool (b || x))::r) ds W chg news):RunL P ops Q n l r ds W chg news:=by
  refine Bt6 k ?_ h2
  intro a w s
  cases b with
  | true=>exact hno rfl a w (s.know hj rfl)
  | false=>exact hyes rfl a w (s.know hj rfl)
theorem Cg5 {l:List Oper} {b:Bool} {dj:Nat} (hj:rget r dj=some (.bool b)) (h1:b=true→RunL P ops Q n l ((dj,.bool true)::r) ds W chg news) (h2:b=false→RunL P ops Q n l ((dj,.bool false)::r) ds W chg news):RunL P ops Q n l r ds W chg news:=fun a w s=>by
  cases b with
  | true=>exact h1 rfl a w (s.know hj rfl)
  | false=>exact h2 rfl a w (s.know hj rfl)

/-! ### A region that draws its order -/
def doneB (k:Nat) (listed:Array Bool):Bool:=(List.range k).all fun j=>listed.getD j true
def wpT (P:Program) (ops:Array Oper) (Q:Exit→Act→World→Prop) (S:World→Prop) (k:Nat):Nat→Array Bool→Act→World→Prop
  | 0,listed,a,w=>Region.ready .any ops listed=[]∧Q .normal a w
  | fuel + 1,listed,a,w=>(doneB k listed=true∧wpAny P .any ops Q (fuel + 1) listed a w)∨(doneB k listed=false∧(Region.ready .any ops listed=[]→Q .normal a w) ∧
      ∀ i∈Region.ready .any ops listed,wpOp P ops Q i (fun a' w'=>S w'∧wpT P ops Q S k fuel (listed.setIfInBounds i true) a' w') a w)
theorem Ar0 {S:World→Prop} {k:Nat}:∀ (fuel:Nat) (listed:Array Bool) (a:Act) (w:World),wpT P ops Q S k fuel listed a w→wpAny P .any ops Q fuel listed a w
  | 0,_,_,_,h=>h
  | _ + 1,_,_,_,.inl h=>h.2
  | fuel + 1,_,_,_,.inr h=>⟨h.2.1,fun i hi=>wpOp_mono (fun a' w' h'=>Ar0 fuel _ a' w' h'.2) (h.2.2 i hi)⟩

theorem Bw3 {k i:Nat} {listed:Array Bool} (hi:i < k) (h:listed.getD i true=false):doneB k listed=false:=by
  unfold doneB;rw [Bool.eq_false_iff];intro hall
  have:=List.all_eq_true.1 hall i (List.mem_range.2 hi)
  rw [h] at this
  cases this

def Closed (ops:Array Oper) (listed:Array Bool):Prop:=∀ j o,ops[j]? = some o→listed.getD j false=true→∀ e∈o.after,Region.binds .any e=true→listed.getD e.on false=true
theorem Closed.start {m:Nat}:Closed ops (Array.replicate m false):=fun j o _ h=>by
  simp only [Array.getD_eq_getD_getElem?,Array.getElem?_replicate] at h
  split at h <;> simp at h
theorem Closed.step {listed:Array Bool} {i:Nat} (h:Closed ops listed) (hr:i∈Region.ready .any ops listed):Closed ops (listed.setIfInBounds i true):=fun j o ho hj e he hb=>by
  by_cases hji:i=j
  · subst hji
    obtain ⟨_,o',ho',hall⟩:=mem_ready.1 hr;rw [ho] at ho';cases ho';exact getD_set_true (hall e he hb)
  · rw [getD_set_ne false hji] at hj
    exact getD_set_true (h j o ho hj e he hb)
def maskOf (acc:List Nat) (es:List Edge):Nat:=es.foldr (fun e s=>bif Region.binds .any e then s ||| 2 ^ e.on ||| acc.getD e.on 0 else s) 0
def masks:List Oper→List Nat→List Nat
  | [],acc=>acc
  | o::l,acc=>masks l (acc++[maskOf acc o.after.toList])
theorem AB7 {acc:List Nat} {i:Nat}:∀ {es:List Edge},(maskOf acc es).testBit i=true→∃ e∈es,Region.binds .any e=true∧(e.on=i∨(acc.getD e.on 0).testBit i=true)
  | [],h=>by simp [maskOf] at h
  | e::es,h=>by
    simp only [maskOf,List.foldr_cons] at h
    cases hb:Region.binds .any e with
    | false =>
      rw [hb] at h;obtain ⟨e',h1,h2⟩:=AB7 (acc:=acc) (es:=es) h;exact ⟨e',List.mem_cons_of_mem _ h1,h2⟩
    | true =>
      rw [hb] at h;simp only [cond_true,Nat.testBit_or,Bool.or_eq_true,Nat.testBit_two_pow,decide_eq_true_eq] at h
      rcases h with (h | h) | h
      · obtain ⟨e',h1,h2⟩:=AB7 (acc:=acc) (es:=es) h
        exact ⟨e',List.mem_cons_of_mem _ h1,h2⟩
      · exact ⟨e,by simp,hb,.inl h⟩
      · exact ⟨e,by simp,hb,.inr h⟩
theorem AX1 {listed:Array Bool} (hc:Closed ops listed):∀ (l:List Oper) (acc:List Nat),(∀ j,l[j]? = ops[acc.length + j]?) →
    (∀ (j m:Nat) (o:Oper),acc[j]? = some m→ops[j]? = some o→(∀ e∈o.after,Region.binds .any e=true→listed.getD e.on false=true)→∀ i,m.testBit i=true→listed.getD i false=true) →
    ∀ (j m:Nat) (o:Oper),(masks l acc)[j]? = some m→ops[j]? = some o→(∀ e∈o.after,Region.binds .any e=true→listed.getD e.on false=true)→∀ i,m.testBit i=true→listed.getD i false=true
  | [],acc,_,h=>h
  | o::l,acc,hl,h=>by
    refine AX1 hc l (acc++[maskOf acc o.after.toList]) (fun j=>by have:=hl (j + 1);simpa [Nat.add_assoc,Nat.add_comm 1 j] using this) (fun j m o' hm ho' hall i hi=>?_)
    rw [List.getElem?_append] at hm
    split at hm
    · exact h j m o' hm ho' hall i hi
    · rename_i hlt
      have h0:=hl 0;simp only [List.getElem?_cons_zero,Nat.add_zero] at h0
      have hj:j=acc.length:=by
        have:=(List.getElem?_eq_some_iff.1 hm).1
        simp at this;omega
      subst hj;simp at hm
      rw [ho'] at h0;cases h0;subst hm;obtain ⟨e,he,hb,h2⟩:=AB7 hi;have he':e∈o.after:=Array.mem_def.2 he;have hon:=hall e he' hb
      rcases h2 with rfl | h2
      · exact hon
      · cases ha:acc[e.on]? with
        | none=>simp [ha] at h2
        | some m2 =>
          cases hoe:ops[e.on]? with
          | none =>
            have h3:=hl 0;have h4:=(List.getElem?_eq_some_iff.1 ha).1;have h5:=(Array.getElem?_eq_some_iff.1 ho').1;rw [Array.getElem?_eq_none_iff] at hoe;omega
          | some o2=>exact h e.on m2 o2 ha hoe (hc e.on o2 hoe hon) i (by simpa [ha] using h2)
def afterB (ops:Array Oper) (j i:Nat):Bool:=((masks ops.toList []).getD j 0).testBit i
theorem AR8 {listed:Array Bool} {j i:Nat} {o:Oper} (hc:Closed ops listed) (ho:ops[j]? = some o) (hall:∀ e∈o.after,Region.binds .any e=true→listed.getD e.on false=true) (h:afterB ops j i=true):listed.getD i false=true:=by
  unfold afterB at h
  cases hm:(masks ops.toList [])[j]? with
  | none=>simp [hm] at h
  | some m=>exact AX1 hc ops.toList [] (by simp) (by simp) j m o hm ho hall i (by simpa [hm] using h)

theorem BP3 {S:World→Prop} {k i:Nat} {oi:Oper} {v:Value} (hi:ops[i]? = some oi) (hik:i < k) (hsel:∀ (j:Nat) (o:Oper) cs b,ops[j]? = some o→o.op ≠ .select cs b)
    (hQ:∀ c a w,Q (.panic c) (a.put oi.dst v) w→Q (.panic c) a w)
    (htail:∀ j oj,ops[j]? = some oj→k≤j→afterB ops j i=true)
    (hap:∀ j oj,ops[j]? = some oj→j < k→j ≠ i→(∀ e∈oi.after,Region.binds .any e=true→e.on ≠ j)→(∀ e∈oj.after,Region.binds .any e=true→e.on ≠ i)→oi.apart ops oj=true) :
    ∀ (fuel:Nat) (listed:Array Bool) (a:Act) (w:World),Closed ops listed→i∈Region.ready .any ops listed→YieldsIf P ops S oi v a→S w →
      wpT P ops Q S k fuel (listed.setIfInBounds i true) (a.put oi.dst v) w→wpT P ops Q S k (fuel + 1) listed a w:=by
  intro fuel
  induction fuel with
  | zero =>
    intro listed a w hcl hr hy hS H;refine .inr ⟨Bw3 hik (mem_ready.1 hr).1,fun h=>(by rw [h] at hr;cases hr),fun j hj=>?_⟩
    by_cases hji:j=i
    · subst hji;exact hy.wpOp hi hS ⟨hS,H⟩
    · have:=ready_mono hj hji
      rw [H.1] at this
      cases this
  | succ fuel ih =>
    intro listed a w hcl hr hy hS H;refine .inr ⟨Bw3 hik (mem_ready.1 hr).1,fun h=>(by rw [h] at hr;cases hr),fun j hj=>?_⟩
    by_cases hji:j=i
    · subst hji;exact hy.wpOp hi hS ⟨hS,H⟩
    · obtain ⟨hjun,oj,hoj,hall⟩:=mem_ready.1 hj
      have hnot:∀ e∈oj.after,Region.binds .any e=true→e.on ≠ i:=fun e he hb heq=>by
        have h1:=hall e he hb;have h0:=(mem_ready.1 hr).1;rw [heq] at h1
        rcases Nat.lt_or_ge i listed.size with h' | h'
        · simp [h'] at h0 h1;rw [h0] at h1;cases h1
        · simp [Array.getElem?_eq_none h'] at h1
      have hjk:j < k:=by
        rcases Nat.lt_or_ge j k with h' | h'
        · exact h'
        · have h1:=AR8 hcl hoj hall (htail j oj hoj h')
          have h0:=(mem_ready.1 hr).1
          rcases Nat.lt_or_ge i listed.size with h' | h'
          · simp [h'] at h0 h1;rw [h0] at h1;cases h1
          · simp [Array.getElem?_eq_none h'] at h1
      have hun:(listed.setIfInBounds i true).getD j true=false:=by rw [getD_set_ne true (Ne.symm hji)];exact hjun
      rcases H with ⟨hd,_⟩ | ⟨_,_,H2⟩
      · rw [Bw3 hjk hun] at hd;cases hd
      · have h1:=H2 j (ready_mono hj hji)
        have hnot2:∀ e∈oi.after,Region.binds .any e=true→e.on ≠ j:=fun e he hb heq=>by
          obtain ⟨_,o',ho',hall'⟩:=mem_ready.1 hr;rw [hi] at ho';cases ho';have h1:=hall' e he hb;rw [heq] at h1
          rcases Nat.lt_or_ge j listed.size with h' | h'
          · simp [h'] at hjun h1;rw [hjun] at h1;cases h1
          · simp [Array.getElem?_eq_none h'] at h1
        have h2:=wpOp_putIf hoj (hap j oj hoj hjk hji hnot2 hnot) (fun cs b=>hsel i oi cs b hi) (fun cs b=>hsel j oj cs b hoj) hQ hy h1;refine wpOp_mono (fun a' w' h3=>⟨h3.2.1,ih (listed.setIfInBounds j true) a' w' (hcl.step hj) (ready_mono hr (Ne.symm hji)) h3.1 h3.2.1 ?_⟩) h2
        rw [Array.setIfInBounds_comm _ _ hji];exact h3.2.2

def freeB (ops:Array Oper) (k i:Nat):Bool :=
  Nat.blt i k && Region.noSelect ops && match ops[i]? with
  | none=>false
  | some oi=>(List.range ops.size).all fun j=>j == i || match ops[j]? with
      | some oj=>(bif Nat.ble k j then afterB ops j i else oj.after.any (fun e=>Region.binds .any e && e.on == i) || ((oi.after.any (fun e=>Region.binds .any e && e.on == j) || oi.apart ops oj)))
      | none=>true
def readyB (ops:Array Oper) (listed:Array Bool) (i:Nat):Bool :=
  !listed.getD i true && match ops[i]? with
  | some o=>o.after.all fun e=>!Region.binds .any e || listed.getD e.on false
  | none=>false

def MemK (W:World) (cp:Blks→Prop) (news:Blks) (w:World):Prop:=∃ c:Blks,cp c∧Mem W c news w
theorem MemK.pick {W w:World} {cp:Blks→Prop} {news news':Blks} (h:MemK W cp news w) (hp:Pick news' news):MemK W cp news' w:=by
  obtain ⟨c,hc,hm⟩:=h;exact ⟨c,hc,hm.pick hp⟩
def RunA (P:Program) (ops:Array Oper) (Q:Exit→Act→World→Prop) (k:Nat) (cp:Blks→Prop) (news0:Blks) (n fuel:Nat) (listed:Array Bool) (r:Regs) (ds:List Deferred) (W:World) (chg news:Blks):Prop :=
  ∀ a w,St n r ds W chg news a w→Closed ops listed→wpT P ops Q (MemK W cp news0) k fuel listed a w
def RunB (P:Program) (ops:Array Oper) (Q:Exit→Act→World→Prop) (n fuel:Nat) (listed:Array Bool) (r:Regs) (ds:List Deferred) (W:World) (chg news:Blks):Prop :=
  ∀ a w,St n r ds W chg news a w→wpAny P .any ops Q fuel listed a w

variable {k fuel:Nat} {listed:Array Bool} {cp:Blks→Prop} {chg0 news0:Blks}

theorem St.drew {a:Act} {w:World} (s:St n r ds W chg news a w):St n r ds W chg news a { w with drawn:=w.drawn + 1 }:=⟨s.size,s.agree,s.defers,s.mem.drew⟩
theorem Ae9 {id:Nat} {l:List Oper} {news0:Blks} (k:Nat) (hm:P.follows .mixedOrders=true) (_hp:Pick news0 news) (h:RunA P l.toArray Q k (fun c=>c=chg) news0 n l.toArray.size (Array.replicate l.toArray.size false) r ds W chg news):RunC P Q n (.region id l.toArray true) r ds W chg news:=fun a _ s =>
  wp_region_any hm (Ar0 _ _ _ _ (h a _ s.drew Closed.start))
def NoPan (Q:Exit→Act→World→Prop):Exit→Act→World→Prop
  | .panic _,_,_=>False
  | e,a,w=>Q e a w
theorem NoPan.imp {Q:Exit→Act→World→Prop}:∀ (e:Exit) (a:Act) (w:World),NoPan Q e a w→Q e a w:=fun e a w h=>by
  cases e <;> first | exact h | exact (h:False).elim
theorem Az7 {id:Nat} {l:List Oper} {news0:Blks} (k:Nat) (hm:P.follows .mixedOrders=true) (_hp:Pick news0 news) (h:RunA P l.toArray (NoPan Q) k (fun c=>c=chg) news0 n l.toArray.size (Array.replicate l.toArray.size false) r ds W chg news):RunC P Q n (.region id l.toArray true) r ds W chg news:=fun a _ s =>
  Code.wp_mono NoPan.imp (wp_region_any hm (Ar0 _ _ _ _ (h a _ s.drew Closed.start)))
theorem Au9 (h:RunE Q n .normal r ds W chg news):RunE (NoPan Q) n .normal r ds W chg news:=h

theorem Ba5 {i:Nat} {o:Oper} {v:Value} (ho:ops[i]? = some o) (hf:freeB ops k i=true) (hr:readyB ops listed i=true) (hy:∀ a w,St n r ds W chg news a w→YieldsIf P ops (MemK W cp news0) o v a) (hd:o.dst=some d) (hn:Nat.ble (d + 1) n=true)
    (hQ:∀ c a w,Q (.panic c) (a.put o.dst v) w→Q (.panic c) a w) (hs:Pick news0 news) (hc:cp chg)
    (h:RunA P ops Q k cp news0 n fuel (listed.setIfInBounds i true) ((d,v)::r) ds W chg news):RunA P ops Q k cp news0 n (fuel + 1) listed r ds W chg news:=fun a w s hcl=>by
  unfold freeB at hf;simp only [ho,Bool.and_eq_true,List.all_eq_true,List.mem_range] at hf;obtain ⟨⟨hik,hsel⟩,hall⟩:=hf
  have hik' : i < k := by have : i + 1 ≤ k := by simpa [Nat.blt] using hik
                          omega
  unfold readyB at hr;simp only [ho,Bool.and_eq_true,Bool.not_eq_true',Array.all_eq_true_iff_forall_mem,Bool.or_eq_true] at hr
  have spec:∀ j oj,ops[j]? = some oj→j ≠ i→(k≤j∧afterB ops j i=true)∨(j < k∧((∃ e∈oj.after,Region.binds .any e=true∧e.on=i)∨(∃ e∈o.after,Region.binds .any e=true∧e.on=j)∨o.apart ops oj=true)):=fun j oj hj hne=>by
    have h1:=hall j (Array.getElem?_eq_some_iff.1 hj).1;simp only [hj,Bool.or_eq_true,beq_iff_eq,hne,false_or] at h1
    cases hk:Nat.ble k j with
    | true =>
      rw [hk] at h1;exact .inl ⟨Nat.le_of_ble_eq_true hk,h1⟩
    | false =>
      rw [hk] at h1
      have hlt:j < k:=by
        rcases Nat.lt_or_ge j k with h' | h'
        · exact h'
        · rw [Nat.ble_eq_true_of_le h'] at hk;cases hk
      simp only [cond_false,Bool.or_eq_true] at h1;refine .inr ⟨hlt,?_⟩
      rcases h1 with h1 | h1 | h1
      · obtain ⟨e,he,hb⟩:=Array.any_eq_true'.1 h1
        simp only [Bool.and_eq_true,beq_iff_eq] at hb;exact .inl ⟨e,he,hb⟩
      · obtain ⟨e,he,hb⟩:=Array.any_eq_true'.1 h1
        simp only [Bool.and_eq_true,beq_iff_eq] at hb;exact .inr (.inl ⟨e,he,hb⟩)
      · exact .inr (.inr h1)
  have hready:i∈Region.ready .any ops listed:=mem_ready.2 ⟨hr.1,o,ho,fun e he hb=>by
    rcases hr.2 e he with h1 | h1
    · rw [hb] at h1;cases h1
    · exact h1⟩
  refine BP3 ho hik' (Region.noSelect_spec hsel) hQ (fun j oj hj hkj=>?_) (fun j oj hj hjk hne hno2 hno=>?_) fuel listed a w hcl hready (hy a w s) ⟨chg,hc,s.mem.pick hs⟩ ?_
  · rcases spec j oj hj (by omega) with h1 | h1
    · exact h1.2
    · omega
  · rcases spec j oj hj hne with h1 | ⟨_,⟨e,he,hb,heq⟩ | ⟨e,he,hb,heq⟩ | h2⟩
    · omega
    · exact absurd heq (hno e he hb)
    · exact absurd heq (hno2 e he hb)
    · exact h2
  · rw [hd]
    exact h _ _ (s.put (Nat.le_of_ble_eq_true hn) v) (hcl.step hready)
theorem Cg7 {i:Nat} {o:Oper} {v:Value} (ho:ops[i]? = some o) (hf:freeB ops k i=true) (hr:readyB ops listed i=true) (hv:∀ c:Blks,cp c→Val P r W c news0 o v) (hg:guardB ops r o.guard=some true) (hd:o.dst=some d) (hn:Nat.ble (d + 1) n=true)
    (hQ:∀ c a w,Q (.panic c) (a.put o.dst v) w→Q (.panic c) a w) (hs:Pick news0 news) (hc:cp chg)
    (h:RunA P ops Q k cp news0 n fuel (listed.setIfInBounds i true) ((d,v)::r) ds W chg news):RunA P ops Q k cp news0 n (fuel + 1) listed r ds W chg news :=
  Ba5 ho hf hr (fun a _ s=>.inl ⟨Ae3 s.agree hg,fun w' hw'=>by
    obtain ⟨c,hcc,hm⟩:=hw';exact (hv c hcc).run a w' s.agree hm⟩) hd hn hQ hs hc h
theorem Cr0 {i:Nat} {o:Oper} {v:Value} (ho:ops[i]? = some o) (hf:freeB ops k i=true) (hr:readyB ops listed i=true) (hv:Val P r W chg0 news0 o v) (hg:guardB ops r o.guard=some true) (hd:o.dst=some d) (hn:Nat.ble (d + 1) n=true)
    (hQ:∀ c a w,Q (.panic c) (a.put o.dst v) w→Q (.panic c) a w) (hs:Pick news0 news) (hc:chg=chg0)
    (h:RunA P ops Q k (fun c=>c=chg0) news0 n fuel (listed.setIfInBounds i true) ((d,v)::r) ds W chg news):RunA P ops Q k (fun c=>c=chg0) news0 n (fuel + 1) listed r ds W chg news :=
  Cg7 ho hf hr (fun c hcc=>by subst hcc;exact hv) hg hd hn hQ hs hc h
theorem Ak0 {i:Nat} {o:Oper} (ho:ops[i]? = some o) (hf:freeB ops k i=true) (hr:readyB ops listed i=true) (hg:guardB ops r o.guard=some false) (hd:o.dst=some d) (hn:Nat.ble (d + 1) n=true)
    (hQ:∀ c a w,Q (.panic c) (a.put o.dst undef) w→Q (.panic c) a w) (hs:Pick news0 news) (hc:cp chg)
    (h:RunA P ops Q k cp news0 n fuel (listed.setIfInBounds i true) ((d,undef)::r) ds W chg news):RunA P ops Q k cp news0 n (fuel + 1) listed r ds W chg news :=
  Ba5 ho hf hr (fun _ _ s=>.inr ⟨Ae3 s.agree hg,rfl⟩) hd hn hQ hs hc h

theorem BD3 {S S':World→Prop} (h:∀ w,S' w→S w):∀ (fuel:Nat) (listed:Array Bool) (a:Act) (w:World),wpT P ops Q S' k fuel listed a w→wpT P ops Q S k fuel listed a w
  | 0,_,_,_,hh=>hh
  | _ + 1,_,_,_,.inl hh=>.inl hh
  | fuel + 1,_,_,_,.inr ⟨h1,h2,h3⟩=>.inr ⟨h1,h2,fun i hi=>wpOp_mono (fun a' w' h'=>⟨h w' h'.1,BD3 h fuel _ a' w' h'.2⟩) (h3 i hi)⟩
theorem Cg8 {news1:Blks} (hs:Pick news0 news1) (h:RunA P ops Q k cp news1 n fuel listed r ds W chg news):RunA P ops Q k cp news0 n fuel listed r ds W chg news:=fun a w s hcl =>
  BD3 (fun w hw=>hw.pick hs) fuel listed a w (h a w s hcl)

def RunI (P:Program) (ops:Array Oper) (Q:Exit→Act→World→Prop) (n i:Nat) (K:Act→World→Prop) (r:Regs) (ds:List Deferred) (W:World) (chg news:Blks):Prop :=
  ∀ a w,St n r ds W chg news a w→wpOp P ops Q i K a w
def NextA (P:Program) (ops:Array Oper) (Q:Exit→Act→World→Prop) (k:Nat) (W:World) (cp:Blks→Prop) (news0:Blks) (fuel:Nat) (listed:Array Bool) (a:Act) (w:World):Prop :=
  MemK W cp news0 w∧(Closed ops listed→wpT P ops Q (MemK W cp news0) k fuel listed a w)
def RunK (n:Nat) (K:Act→World→Prop) (r:Regs) (ds:List Deferred) (W:World) (chg news:Blks):Prop:=∀ a w,St n r ds W chg news a w→K a w
theorem Aa5 {news1:Blks} (hp:Pick news1 news) (hs:Pick news0 news1) (hc:cp chg) (h:RunA P ops Q k cp news1 n fuel listed r ds W chg news):RunK n (NextA P ops Q k W cp news0 fuel listed) r ds W chg news:=fun a w s =>
  ⟨⟨chg,hc,(s.mem.pick hp).pick hs⟩,Cg8 hs h a w s⟩
theorem Ab5 (h:RunB P ops Q n fuel listed r ds W chg news):RunK n (wpAny P .any ops Q fuel listed) r ds W chg news:=h

variable {K:Act→World→Prop} {i:Nat}
theorem Ac2 {o:Oper} {v:Value} (ho:ops[i]? = some o) (hv:Val P r W chg news o v) (hg:guardB ops r o.guard=some true) (hd:o.dst=some d) (hn:Nat.ble (d + 1) n=true) (h:RunK n K ((d,v)::r) ds W chg news):RunI P ops Q n i K r ds W chg news:=fun a w s=>by
  unfold wpOp;simp only [ho,Ae3 s.agree hg,if_true,Oper.wp,hv.run a w s.agree s.mem,Oper.upon_value,hd];exact .inl (h _ _ (s.put (Nat.le_of_ble_eq_true hn) v))
theorem Ac6 {o:Oper} (ho:ops[i]? = some o) (hg:guardB ops r o.guard=some false) (hd:o.dst=some d) (hn:Nat.ble (d + 1) n=true) (h:RunK n K ((d,undef)::r) ds W chg news):RunI P ops Q n i K r ds W chg news:=fun a w s=>by
  unfold wpOp;simp only [ho,Ae3 s.agree hg,Bool.false_eq_true,if_false,hd];exact h _ _ (s.put (Nat.le_of_ble_eq_true hn) undef)
theorem Ae0 {o:Oper} {v:Nat→Value} {ob:Obj} (ho:ops[i]? = some o) (hv:New P r W chg news o v ob) (hg:guardB ops r o.guard=some true) (hd:o.dst=some d) (hn:Nat.ble (d + 1) n=true) (h:∀ b,RunK n K ((d,v b)::r) ds W chg ((b,ob)::news)):RunI P ops Q n i K r ds W chg news:=fun a w s=>by
  unfold wpOp;simp only [ho,Ae3 s.agree hg,if_true,Oper.wp,hv.run a w s.agree s.mem,Oper.upon_value,hd];have s2:=s.put (Nat.le_of_ble_eq_true hn) (v w.heap.size);exact .inl (h _ _ _ ⟨s2.size,s2.agree,s2.defers,s.mem.alloc ob⟩)
theorem Ag9 {o:Oper} {chg' news':Blks} (ho:ops[i]? = some o) (hv:Sto P r W chg news o chg' news') (hg:guardB ops r o.guard=some true) (hd:o.dst=none) (h:RunK n K r ds W chg' news'):RunI P ops Q n i K r ds W chg news:=fun a w s=>by
  obtain ⟨w',h1,h2⟩:=hv.run a w s.agree s.mem;unfold wpOp;simp only [ho,Ae3 s.agree hg,if_true,Oper.wp,h1,Oper.upon_skip,hd];exact .inl (h _ _ ⟨s.size,s.agree,s.defers,h2⟩)
theorem RunI.call {o:Oper} {f:FuncId} {args:Array Value} {R:World→Ending→World→Prop} (ho:ops[i]? = some o) (hi:IsCall P r o f args) (hg:guardB ops r o.guard=some true)
    (hc:∀ w,Mem W chg news w→Calls P f args w (R w))
    (hk:∀ a w e w',St n r ds W chg news a w→R w e w'→match e with | .returned v=>K (a.put o.dst v) w' | .panicked c=>Q (.panic c) a w' | .outgrown=>LetsOut Q):RunI P ops Q n i K r ds W chg news:=fun a w s=>by
  unfold wpOp;simp only [ho,Ae3 s.agree hg,if_true,Oper.wp,hi.runs a w s.agree,Oper.upon_enter];refine .inl ((hc w s.mem).mono fun e w' hR=>?_)
  have:=hk a w e w' s hR
  cases e with
  | returned v=>exact this
  | panicked c=>exact this
  | outgrown=>exact this
theorem Ac4 {o:Oper} {f:FuncId} {args:Array Value} {v:Value} (ho:ops[i]? = some o) (hi:IsCall P r o f args) (hg:guardB ops r o.guard=some true) (hd:o.dst=some d) (hn:Nat.ble (d + 1) n=true)
    (hc:∀ w,Mem W chg news w→Calls P f args w (Pure v w)) (h:RunK n K ((d,v)::r) ds W chg news):RunI P ops Q n i K r ds W chg news :=
  RunI.call ho hi hg hc (fun a w e w' s hR=>by
    obtain ⟨rfl,hm⟩:=hR;have s2:=s.put (Nat.le_of_ble_eq_true hn) v;simp only [hd];exact h _ _ ⟨s2.size,s2.agree,s2.defers,s.mem.pass hm⟩)
theorem Ao7 {β:Type} {o:Oper} {f:FuncId} {args:Array Value} {v:β→Value} {nw:β→Blks} (ho:ops[i]? = some o) (hi:IsCall P r o f args) (hg:guardB ops r o.guard=some true) (hd:o.dst=some d) (hn:Nat.ble (d + 1) n=true)
    (hc:∀ w,Mem W chg news w→Calls P f args w (News v nw w)) (h:∀ b,RunK n K ((d,v b)::r) ds W chg (nw b++news)):RunI P ops Q n i K r ds W chg news :=
  RunI.call ho hi hg hc (fun a w e w' s hR=>by
    obtain ⟨b,rfl,hm⟩:=hR;have s2:=s.put (Nat.le_of_ble_eq_true hn) (v b);simp only [hd];exact h b _ _ ⟨s2.size,s2.agree,s2.defers,s.mem.trans hm⟩)

theorem Ag5 {rs:List Nat} (hr:Region.ready .any ops listed=rs) (hne:rs ≠ []) (hd:doneB k listed=false) (h:∀ i∈rs,RunI P ops Q n i (NextA P ops Q k W cp news0 fuel (listed.setIfInBounds i true)) r ds W chg news) :
    RunA P ops Q k cp news0 n (fuel + 1) listed r ds W chg news:=fun a w s hcl=>.inr ⟨hd,fun h0=>absurd (hr ▸ h0) hne,fun i hi=>wpOp_mono (fun _ _ hx=>⟨hx.1,hx.2 (hcl.step hi)⟩) (h i (hr ▸ hi) a w s)⟩
theorem RunA.one {i:Nat} (hr:Region.ready .any ops listed=[i]) (hd:doneB k listed=false) (h:RunI P ops Q n i (NextA P ops Q k W cp news0 fuel (listed.setIfInBounds i true)) r ds W chg news) :
    RunA P ops Q k cp news0 n (fuel + 1) listed r ds W chg news:=Ag5 hr (by simp) hd (fun j hj=>(List.mem_singleton.1 hj) ▸ h)
theorem Af3 (hd:doneB k listed=true) (h:RunB P ops Q n (fuel + 1) listed r ds W chg news):RunA P ops Q k cp news0 n (fuel + 1) listed r ds W chg news:=fun a w s _=>.inl ⟨hd,h a w s⟩
theorem RunB.one {i:Nat} (hr:Region.ready .any ops listed=[i]) (h:RunI P ops Q n i (wpAny P .any ops Q fuel (listed.setIfInBounds i true)) r ds W chg news):RunB P ops Q n (fuel + 1) listed r ds W chg news:=fun a w s =>
  wpAny_all hr (by simp) (fun j hj => by obtain rfl : j = i := by simpa using hj
                                         exact h a w s)
theorem RunA.done (hr:Region.ready .any ops listed=[]) (h:RunE Q n .normal r ds W chg news):RunA P ops Q k cp news0 n 0 listed r ds W chg news:=fun a w s _=>⟨hr,h a w s⟩
theorem RunB.done (hr:Region.ready .any ops listed=[]) (h:RunE Q n .normal r ds W chg news):RunB P ops Q n fuel listed r ds W chg news:=fun a w s=>wpAny_done hr (h a w s) fuel
theorem Ah5 {b:Bool} {dj:Nat} (hj:rget r dj=some (.bool b)) (h1:b=true→RunA P ops Q k cp news0 n fuel listed ((dj,.bool true)::r) ds W chg news) (h2:b=false→RunA P ops Q k cp news0 n fuel listed ((dj,.bool false)::r) ds W chg news) :
    RunA P ops Q k cp news0 n fuel listed r ds W chg news:=fun a w s hcl=>by
  cases b with
  | true=>exact h1 rfl a w (s.know hj rfl) hcl
  | false=>exact h2 rfl a w (s.know hj rfl) hcl

/-! ### Ways through a region that meet again -/
theorem St.pick {q r:Regs} {news':Blks} {a:Act} {w:World} (h:St n r ds W chg news a w) (hs:Sub q r) (hn:Pick news' news):St n q ds W chg news' a w:=⟨h.size,h.agree.sub hs,h.defers,h.mem.pick hn⟩
theorem Az8 {id:Nat} {l:List Oper} {news0:Blks} {J:Act→World→Prop} (k:Nat) (hm:P.follows .mixedOrders=true) (_hp:Pick news0 news) (h:RunA P l.toArray (SegQ Q J) k (fun c=>c=chg) news0 n l.toArray.size (Array.replicate l.toArray.size false) r ds W chg news) (h2:∀ a w,J a w→Q .normal a w) :
    RunC P Q n (.region id l.toArray true) r ds W chg news:=fun a _ s =>
  Code.wp_mono (fun e a w hq=>by cases e <;> first | exact h2 a w hq | exact hq) (wp_region_any hm (Ar0 _ _ _ _ (h a _ s.drew Closed.start)))
def J0 (n:Nat) (q:Regs) (nw:Blks) (ds:List Deferred) (W:World) (chg:Blks) (a:Act) (w:World):Prop:=St n q ds W chg nw a w
def J1 (n:Nat) (q:Nat→Regs) (nw:Nat→Blks) (ds:List Deferred) (W:World) (chg:Blks) (a:Act) (w:World):Prop:=∃ x,St n (q x) ds W chg (nw x) a w
def J2 (n:Nat) (q:Nat→Nat→Regs) (nw:Nat→Nat→Blks) (ds:List Deferred) (W:World) (chg:Blks) (a:Act) (w:World):Prop:=∃ x y,St n (q x y) ds W chg (nw x y) a w
def J3 (n:Nat) (q:Nat→Nat→Nat→Regs) (nw:Nat→Nat→Nat→Blks) (ds:List Deferred) (W:World) (chg:Blks) (a:Act) (w:World):Prop:=∃ x y z,St n (q x y z) ds W chg (nw x y z) a w
def J4 (n:Nat) (q:Nat→Nat→Nat→Nat→Regs) (nw:Nat→Nat→Nat→Nat→Blks) (ds:List Deferred) (W:World) (chg:Blks) (a:Act) (w:World):Prop:=∃ x y z t,St n (q x y z t) ds W chg (nw x y z t) a w
theorem Az6 {q:Nat→Regs} {nw:Nat→Blks} (x:Nat) (hs:Sub (q x) r) (hn:Pick (nw x) news):RunE (SegQ Q (J1 n q nw ds W chg)) n .normal r ds W chg news:=fun _ _ s=>⟨x,s.pick hs hn⟩
theorem AH3 {q:Nat→Nat→Regs} {nw:Nat→Nat→Blks} (x y:Nat) (hs:Sub (q x y) r) (hn:Pick (nw x y) news):RunE (SegQ Q (J2 n q nw ds W chg)) n .normal r ds W chg news:=fun _ _ s=>⟨x,y,s.pick hs hn⟩
theorem J0.out {q:Regs} {nw:Blks} (h:RunE Q n .normal q ds W chg nw):∀ a w,J0 n q nw ds W chg a w→Q .normal a w:=fun a w s=>h a w s
theorem J1.out {q:Nat→Regs} {nw:Nat→Blks} (h:∀ x,RunE Q n .normal (q x) ds W chg (nw x)):∀ a w,J1 n q nw ds W chg a w→Q .normal a w:=fun a w ⟨x,s⟩=>h x a w s
theorem J2.out {q:Nat→Nat→Regs} {nw:Nat→Nat→Blks} (h:∀ x y,RunE Q n .normal (q x y) ds W chg (nw x y)):∀ a w,J2 n q nw ds W chg a w→Q .normal a w:=fun a w ⟨x,y,s⟩=>h x y a w s
theorem J3.out {q:Nat→Nat→Nat→Regs} {nw:Nat→Nat→Nat→Blks} (h:∀ x y z,RunE Q n .normal (q x y z) ds W chg (nw x y z)):∀ a w,J3 n q nw ds W chg a w→Q .normal a w:=fun a w ⟨x,y,z,s⟩=>h x y z a w s
theorem J4.out {q:Nat→Nat→Nat→Nat→Regs} {nw:Nat→Nat→Nat→Nat→Blks} (h:∀ x y z t,RunE Q n .normal (q x y z t) ds W chg (nw x y z t)):∀ a w,J4 n q nw ds W chg a w→Q .normal a w:=fun a w ⟨x,y,z,t,s⟩=>h x y z t a w s
end
end Go.Eng
/- The engine: loops that count, slices that came in, functions that defer. No program is in sight. -/
namespace Go.Eng
open Go Go.RowKit

theorem Ac8 {q r:Regs} {t:Nat} {u v:Value} (h:rget r t=some u) (he:u=v) (hs:Sub q r):Sub ((t,v)::q) r:=Sub.cons (by rw [h,he]) hs

section
variable {P:Program} {ops:Array Oper} {Q:Exit→Act→World→Prop} {n:Nat} {r:Regs} {ds:List Deferred} {W:World} {chg news:Blks} {rest:List Oper}
variable {d:Nat} {ty:TypeId} {pos:String} {after:Array Edge} {dst:Option Tmp} {gd:Option (Nat×Bool)}

theorem Ak3 {c:Code} {q:Regs} {news':Blks} (hs:Sub q r) (hn:Pick news' news) (h:RunC P Q n c q ds W chg news'):RunC P Q n c r ds W chg news:=fun a w s=>h a w (s.pick hs hn)
theorem AS6 {e:Exit} {q:Regs} {news':Blks} (hs:Sub q r) (hn:Pick news' news) (h:RunE Q n e q ds W chg news'):RunE Q n e r ds W chg news:=fun a w s=>h a w (s.pick hs hn)

def Round (n:Nat) (ds:List Deferred) (W:World) (chg:Nat→Blks) (N:Nat) (Inv:Nat→Prop) (R:Nat→Regs) (Nw:Nat→Blks) (k:Nat) (a:Act) (w:World):Prop :=
  ∃ k',k < k'∧k'≤N∧Inv k'∧St n (R k') ds W (chg k') (Nw k') a w
theorem Ad6 {body:Code} {q:Regs} {n0:Blks} (N:Nat) (R:Nat→Regs→Regs) (C V:Nat→Blks) (Inv:Nat→Prop) (h0:Inv 0) (hc:chg=C 0) (hs:Sub (R 0 q) r) (hn:Pick (V 0++n0) news)
    (hb:∀ k,k≤N→Inv k→RunC P (Exit.then (Round n ds W C N Inv (fun k=>R k q) (fun k=>V k++n0) k) Q) n body (R k q) ds W (C k) (V k++n0)):RunC P Q n (.loop body) r ds W chg news:=by
  have key:∀ (m k:Nat),N - k < m→k≤N→Inv k→∀ a w,St n (R k q) ds W (C k) (V k++n0) a w→Code.rounds P body Q m a w:=by
    intro m
    induction m with
    | zero=>intro k h;omega
    | succ m ih =>
      intro k hk hN hi a w s;rw [rounds_succ];refine wp_mono (hb k hN hi a w s) ?_
      rintro e a2 w2 hq
      cases e with
      | normal =>
        obtain ⟨k',h1,h2,h3,s2⟩:=hq;exact ih k' (by omega) h2 h3 a2 w2 s2
      | exit id=>exact hq
      | goto l=>exact hq
      | ret=>exact hq
      | panic c=>exact hq
      | outgrown=>exact hq
  intro a w s;subst hc;exact wp_loop_rounds _ (key _ 0 (Nat.lt_succ_self _) (Nat.zero_le _) h0 a w (s.pick hs hn))
theorem Ad2 {C:Nat→Blks} {N:Nat} {Inv:Nat→Prop} {R:Nat→Regs} {Nw:Nat→Blks} {k:Nat} (hN:k + 1≤N) (hi:Inv (k + 1)) (hc:chg=C (k + 1)) (hs:Sub (R (k + 1)) r) (hn:Pick (Nw (k + 1)) news) :
    RunE (Exit.then (Round n ds W C N Inv R Nw k) Q) n .normal r ds W chg news:=fun _ _ s=>⟨k + 1,Nat.lt_succ_self _,hN,hi,by subst hc;exact s.pick hs hn⟩

theorem RunC.scope {c:Code} (h:RunC P (Exit.noGoto Q) n c r ds W chg news):RunC P Q n (.scope c) r ds W chg news:=fun a w s=>wp_scope_straight (h a w s)
theorem AH1 (h:RunE Q n .normal r ds W chg news):RunE (Exit.noGoto Q) n .normal r ds W chg news:=fun a w s=>h a w s
theorem Am3 (h:RunE Q n .ret r ds W chg news):RunE (Exit.noGoto Q) n .ret r ds W chg news:=fun a w s=>h a w s
theorem Aw4 {c:List PanicEntry} (h:RunE Q n (.panic c) r ds W chg news):RunE (Exit.noGoto Q) n (.panic c) r ds W chg news:=fun a w s=>h a w s

/-! ### Slices that came in -/
structure Sl (W:World) (p:Option Addr) (b o sz:Nat) (xs:List (List Value)):Prop where
  at':xs ≠ []→p=some ⟨b,o,none⟩
  len:∀ x∈xs,x.length=sz
  cell:∀ i (h:i < xs.length) j,j < sz→W.cell? ⟨b,o + i * sz + j,none⟩=xs[i][j]?
theorem Sl.ptr {p:Option Addr} {b o sz:Nat} {xs:List (List Value)} (h:Sl W p b o sz xs) {i:Nat} (hi:i < xs.length):p=some ⟨b,o,none⟩:=h.at' (by rintro rfl;simp at hi)
theorem Sl.lt {p:Option Addr} {b o sz:Nat} {xs:List (List Value)} (h:Sl W p b o sz xs) (hz:0 < sz) {i:Nat} (hi:i < xs.length):b < W.heap.size:=by
  have h1:=h.cell i hi 0 hz;have h2:=h.len _ (List.getElem_mem hi);rw [List.getElem?_eq_getElem (by omega)] at h1;exact World.block_lt_of_cell? W _ h1
theorem Sl.mono {w:World} {p:Option Addr} {b o sz:Nat} {xs:List (List Value)} (h:Sl W p b o sz xs) (hz:0 < sz) (hm:Mem W chg news w) (hc:∀ ob,(b,ob) ∉ chg):Sl w p b o sz xs :=
  ⟨h.at',h.len,fun i hi j hj=>by rw [hm.cell (p:=⟨b,_,none⟩) (h.lt hz hi) hc];exact h.cell i hi j hj⟩
theorem Sl.load {w:World} {T:TypeId} {p:Option Addr} {b o sz:Nat} {xs:List (List Value)} (h:Sl W p b o sz xs) (hz:0 < sz) (hm:Mem W chg news w) (hc:∀ ob,(b,ob) ∉ chg) (hT:tyB P T=some (true,sz)) {i:Nat} (hi:i < xs.length) :
    (loadVar T ⟨b,o + i * sz,none⟩).run P w = .ok (.agg xs[i].toArray) w:=by
  have hl:=h.len _ (List.getElem_mem hi);refine An5 (by rw [hl];exact hT) (fun j hj=>?_)
  rw [add_plain,hm.cell (p:=⟨b,_,none⟩) (h.lt hz hi) hc,h.cell i hi j (by omega)];simp [hj]
theorem Sl.loadM {α:Type} {f:α→List Value} {w:World} {T:TypeId} {p:Option Addr} {b o sz:Nat} {l:List α} (h:Sl W p b o sz (l.map f)) (hz:0 < sz) (hm:Mem W chg news w) (hc:∀ ob,(b,ob) ∉ chg) (hT:tyB P T=some (true,sz)) {i:Nat} (hi:i < l.length) :
    (loadVar T ⟨b,o + (i:Int).toNat * sz,none⟩).run P w = .ok (.agg (f l[i]).toArray) w:=by
  have:=h.load hz hm hc hT (i:=i) (by simpa using hi)
  simpa using this
theorem Sl.loadX {α:Type} {f:α→List Value} {w:World} {T:TypeId} {p:Option Addr} {b o sz:Nat} {l:List α} (h:Sl W p b o sz (l.map f)) (hz:0 < sz) (hm:Mem W chg news w) (hc:∀ ob,(b,ob) ∉ chg) (hT:tyB P T=some (true,sz)) {i:Nat} (hi:i < l.length) {x:α} (hx:l[i]=x) :
    (loadVar T ⟨b,o + (i:Int).toNat * sz,none⟩).run P w = .ok (.agg (f x).toArray) w:=hx ▸ h.loadM hz hm hc hT hi
theorem Sl.cellX {α:Type} {f:α→List Value} {w:World} {T:TypeId} {p:Option Addr} {b o sz s1:Nat} {l:List α} (h:Sl W p b o sz (l.map f)) (hm:Mem W chg news w) (hc:∀ ob,(b,ob) ∉ chg) (hT:tyB P T=some (false,s1)) {i:Nat} (hi:i < l.length) {x:α} (hx:l[i]=x) {j:Nat} (hj:j < sz) {v:Value} (hv:nth (f x) j=some v) :
    (loadVar T ⟨b,o + (i:Int).toNat * sz + j,none⟩).run P w = .ok v w:=by
  subst hx;have hi':i < (l.map f).length:=by simpa using hi
  refine Ah4 hT ?_
  have:=h.cell i hi' j hj
  rw [hm.cell (p:=⟨b,_,none⟩) (h.lt (by omega) hi') hc,← hv,AW9];simpa using this
theorem Sl.loadM1 {α:Type} {f:α→List Value} {w:World} {T:TypeId} {p:Option Addr} {b o sz:Nat} {l:List α} (h:Sl W p b o sz (l.map f)) (hz:0 < sz) (hm:Mem W chg news w) (hc:∀ ob,(b,ob) ∉ chg) (hT:tyB P T=some (false,sz)) {i:Nat} (hi:i < l.length) {v:Value} (hv:(f l[i])[0]? = some v) :
    (loadVar T ⟨b,o + (i:Int).toNat * sz,none⟩).run P w = .ok v w:=by
  have hi':i < (l.map f).length:=by simpa using hi
  refine Ah4 hT ?_
  have:=h.cell i hi' 0 hz
  rw [hm.cell (p:=⟨b,_,none⟩) (h.lt hz hi') hc,← hv];simpa using this
theorem Sl.ptrM {α:Type} {f:α→List Value} {p:Option Addr} {b o sz:Nat} {l:List α} (h:Sl W p b o sz (l.map f)) {i:Nat} (hi:i < l.length):p=some ⟨b,o,none⟩:=h.ptr (i:=i) (by simpa using hi)
theorem Sl.one {w:World} {b:Nat} {T:TypeId} {cs:List Value} {fr:Nat×Nat} {sz:Nat} (h:w.heap[b]? = some (.cells cs.toArray T fr)) (hl:cs.length=sz):Sl w (some ⟨b,0,none⟩) b 0 sz [cs] :=
  ⟨fun _=>rfl,by simpa using hl,fun i hi j _=>by
    obtain rfl:i=0:=by simpa using hi
    rw [Ae6 h];simp⟩
theorem Sl.ne {w:World} {p:Option Addr} {b o sz b':Nat} {ob:Obj} {xs:List (List Value)} (h:Sl W p b o sz xs) (hz:0 < sz) (hm:Mem W [] news w) (hn:(b',ob)∈news) (hx:xs ≠ []):b ≠ b':=by
  have h1:=h.lt hz (i:=0) (List.length_pos_iff.2 hx);have h2:=(hm.newd _ _ hn).1;omega
theorem Sl.emp {w:World} {b o sz:Nat}:Sl w none b o sz []:=⟨fun h=>absurd rfl h,by simp,fun i hi=>by simp at hi⟩
theorem Aa6 {x y:Operand} {T e:TypeId} {sz b o len cap:Nat} {p:Option Addr} {k:IntKind} {i:Int} (hx:rev r x=some (.slice p len cap)) (hy:rev r y=some (.int k i)) (hT:slB P T=some (e,sz))
    (h0:0≤i) (h1:i < len) (hp:p=some ⟨b,o,none⟩):Val P r W chg news { dst,op:=.indexAddr T x y,type:=ty,pos,after,guard:=gd } (.pointer (some ⟨b,o + i.toNat * sz,none⟩)):=by
  subst hp;exact Ag8 hx hy hT h0 h1

theorem Mem.old_at {w:World} {b:Nat} {o:Obj} (h:Mem W chg news w) (hb:W.heap[b]? = some o) (hc:∀ ob,(b,ob) ∉ chg):w.heap[b]? = some o:=by
  rw [h.old b (lt_of_block hb) hc];exact hb
theorem Bh2 {x:Operand} {T T0:TypeId} {b o sz:Nat} {cs vs:List Value} {fr:Nat×Nat} (hx:rev r x=some (.pointer (some ⟨b,o,none⟩))) (hb:W.heap[b]? = some (.cells cs.toArray T0 fr)) (hc:∀ ob,(b,ob) ∉ chg)
    (hT:tyB P T=some (true,sz)) (hv:grab cs o sz=some vs):Val P r W chg news { dst,op:=.load T x,type:=ty,pos,after,guard:=gd } (.agg vs.toArray) :=
  Ab2 hx (fun w hm=>by
    obtain ⟨h1,h2⟩:=AE0 hv;have h3:=hm.old_at hb hc;exact An5 (by rw [h1];exact hT) (fun j hj=>by rw [add_plain,Ae6 h3,h2 j (by omega)];simp [hj]))
theorem Aa9 {x:Operand} {T T0:TypeId} {b o sz:Nat} {cs:List Value} {v:Value} {fr:Nat×Nat} (hx:rev r x=some (.pointer (some ⟨b,o,none⟩))) (hb:W.heap[b]? = some (.cells cs.toArray T0 fr)) (hc:∀ ob,(b,ob) ∉ chg)
    (hT:tyB P T=some (false,sz)) (hv:nth cs o=some v):Val P r W chg news { dst,op:=.load T x,type:=ty,pos,after,guard:=gd } v :=
  Ab2 hx (fun w hm=>Ah4 hT (by rw [Ae6 (hm.old_at hb hc),← AW9];exact hv))

/-! ### Functions that defer one call, of a function that recovers -/
structure Catches (P:Program) (f:FuncId) (T:TypeId) (mis:Int→Value):Prop where
  calm:∀ b w,CallsD P f #[.pointer (some ⟨b,0,none⟩)] .returning w fun e u w'=>(∃ v,e = .returned v)∧u = .returning∧Mem w [] [] w'
  wild:∀ b k x w,w.heap[b]? = some (.cells #[x] T (0,0))→CallsD P f #[.pointer (some ⟨b,0,none⟩)] (.panicking [{ v:=mis k,recovered:=false }]) w fun e u w' =>
    (∃ v,e = .returned v)∧u = .panicking [{ v:=mis k,recovered:=true }]∧Mem w [(b,.cells #[.int .i64 k] T (0,0))] [] w'
theorem Ao0 {f:FuncId} {fn:Func} {c:Code} {vs:List Value} {R:Ending→World→Prop} (hf:P.funcs[f]? = some fn) (hb:fn.body=some c) (hn:Nat.ble vs.length fn.ntmps=true)
    (h:RunC P (bodyPostD P fn R) fn.ntmps c (args0 0 vs) [] W [] []):Calls P f vs.toArray W R :=
  calls_of_wp_defers hf hb (h _ _ (Av2 (Nat.le_of_ble_eq_true hn) (Mem.refl W)))

/-! ### Calls that may panic, and make or turn blocks -/
def TryN {α:Type} (mis:Int→Value) (x:Except Int α) (v:α→Nat→Value) (nw:α→Nat→Blks) (W:World) (e:Ending) (w:World):Prop :=
  match x with
  | .error k=>e = .panicked [{ v:=mis k,recovered:=false }]∧Mem W [] [] w
  | .ok a=>∃ b,e = .returned (v a b)∧Mem W [] (nw a b) w
theorem AC2 {α:Type} {o:Oper} {f:FuncId} {args:Array Value} {mis:Int→Value} {x:Except Int α} {v:α→Nat→Value} {nw:α→Nat→Blks} (hi:IsCall P r o f args) (hg:guardB ops r o.guard=some true) (hd:o.dst=some d) (hn:Nat.ble (d + 1) n=true)
    (hc:∀ w,Mem W chg news w→Calls P f args w (TryN mis x v nw w)) (herr:∀ k,x = .error k→RunE Q n (.panic [{ v:=mis k,recovered:=false }]) r ds W chg news)
    (hok:∀ a,x = .ok a→∀ b,RunL P ops Q n rest ((d,v a b)::r) ds W chg (nw a b++news)):RunL P ops Q n (o::rest) r ds W chg news :=
  RunL.call hg hd (fun a w s=>hi.runs a w s.agree) hc (fun a w e w' s hR=>by
    unfold TryN at hR
    cases x with
    | ok y =>
      obtain ⟨b,rfl,hm⟩:=hR;have s2:=s.put (Nat.le_of_ble_eq_true hn) (v y b);exact hok y rfl b _ _ ⟨s2.size,s2.agree,s2.defers,s.mem.trans hm⟩
    | error k =>
      obtain ⟨rfl,hm⟩:=hR;exact herr k rfl a w' ⟨s.size,s.agree,s.defers,s.mem.pass hm⟩)
theorem AH2 {α:Type} {fn:Func} {mis:Int→Value} {x:Except Int α} {v:α→Nat→Value} {nw:α→Nat→Blks} {u:Value} {a:α} (b:Nat) (hv:ResVs P r news fn u) (he:x = .ok a) (hu:u=v a b) (hp:Pick (nw a b) news) :
    RunE (bodyPost P fn (TryN mis x v nw W)) n .ret r [] W [] news :=
  RunE.ret (chg:=[]) hv (fun _ hm=>by rw [he];exact ⟨b,by rw [hu],hm.pick hp⟩)
theorem Ap8 {α:Type} {fn:Func} {mis:Int→Value} {x:Except Int α} {v:α→Nat→Value} {nw:α→Nat→Blks} {k:Int} (he:x = .error k) :
    RunE (bodyPost P fn (TryN mis x v nw W)) n (.panic [{ v:=mis k,recovered:=false }]) r [] W [] news:=fun _ w s=>⟨s.defers,by rw [he];exact ⟨rfl,s.mem.drop⟩⟩
/-! ### A region that draws its order, and may panic, in a function that defers -/
def PanQ (Q:Exit→Act→World→Prop) (n:Nat) (r:Regs) (ds:List Deferred) (W:World) (chg news:Blks):Exit→Act→World→Prop
  | .panic c,a,w=>St n r ds W chg news a w∧RunE Q n (.panic c) r ds W chg news
  | e,a,w=>Q e a w
theorem PanQ.imp:∀ (e:Exit) (a:Act) (w:World),PanQ Q n r ds W chg news e a w→Q e a w:=fun e a w h=>by
  cases e <;> first | exact h | exact (h:_∧_).2 a w (h:_∧_).1
theorem PanQ.back {v:Value} (hd:rget r d=none):∀ (c:List PanicEntry) (a:Act) (w:World),PanQ Q n r ds W chg news (.panic c) (a.put (some d) v) w→PanQ Q n r ds W chg news (.panic c) a w:=fun c a w h=>by
  obtain ⟨s,h2⟩:=(h:_∧_);refine ⟨⟨by have:=s.size;simpa [Act.put] using this,fun t u ht=>?_,s.defers,s.mem⟩,h2⟩
  have hne:d ≠ t:=by rintro rfl;rw [hd] at ht;cases ht
  have:=s.agree t u ht
  simpa [Act.put,Array.getElem?_setIfInBounds_ne hne] using this
theorem Agree.nil (a:Act):Agree a []:=fun _ _ h=>by cases h
theorem RunC.at {c:Code} {a:Act} {w:World} (n:Nat) (r:Regs) (W:World) (chg:Blks) (s:St n r [] W chg [] a w) (h:RunC P Q n c r [] W chg []):c.wp P Q a w:=h a w s

/-! ### Interface values -/
theorem AB4 {w:World} {T t:TypeId} {v:Value} {ms:Array (String×TypeId)} (hT:P.underlying T=some (.interface ms)):(Op.equal T (.iface t v) .nilIface).run P w = .ok false w:=by
  have h:∀ d,(Op.equalIn (d + 1) T (.iface t v) .nilIface).run P w = .ok false w:=fun d=>by simp [Op.equalIn,run_underlying hT]
  exact h 9999
theorem run_equal_nil_nil {w:World} {T:TypeId} {ms:Array (String×TypeId)} (hT:P.underlying T=some (.interface ms)):(Op.equal T .nilIface .nilIface).run P w = .ok true w:=by
  have h:∀ d,(Op.equalIn (d + 1) T .nilIface .nilIface).run P w = .ok true w:=fun d=>by simp [Op.equalIn,run_underlying hT]
  exact h 9999
theorem Al7 {x:Operand} {T t:TypeId} {v:Value} (hx:rev r x=some (.iface t v)) (hi:(P.underlying t).any (fun t=>match t with | .interface _=>false | _=>true)=true) :
    Val P r W chg news { dst,op:=.typeAssert x T t true,type:=ty,pos,after,guard:=gd } (.tuple #[v,.bool true]) :=
  ⟨fun a w ha _=>by
    cases hu:P.underlying t with
    | none=>simp [hu] at hi
    | some d =>
      simp [hu] at hi
      cases d <;> simp at hi <;> simp [execOp,ha.eval hx,Instr.typeAssert,run_underlying hu]⟩
end
end Go.Eng
/- More operations: a field of a struct value, structs of two whole numbers compared, unsigned numbers. -/
namespace Go.Eng
open Go
section
variable {P:Program} {r:Regs} {W:World} {chg news:Blks}
variable {d:Nat} {ty:TypeId} {pos:String} {after:Array Edge} {dst:Option Tmp} {gd:Option (Nat×Bool)}
def field1B (P:Program) (T:TypeId) (i:Nat):Option Nat :=
  match P.underlying T with
  | some (.struct fs)=>match fs[i]? with
    | some f=>match P.underlying f.type with
      | some d=>if isAggD d then none else some f.offset
      | none=>none
    | none=>none
  | _=>none
theorem Al1 {w:World} {t:TypeId} {d:TypeDesc} {cs:Array Value} {off:Nat} {v:Value} (hu:P.underlying t=some d) (ha:isAggD d=false) (h:cs[off]? = some v):(part t cs off).run P w = .ok v w:=by
  have h1:(isAgg t).run P w = .ok false w:=by
    cases d <;> simp [isAggD] at ha <;> simp [isAgg,run_underlying hu]
  simp [part,h1,h]
theorem Val.field {x:Operand} {T:TypeId} {i off:Nat} {cs:Array Value} {v:Value} (hx:rev r x=some (.agg cs)) (hf:field1B P T i=some off) (hv:cs[off]? = some v) :
    Val P r W chg news { dst,op:=.field T x i,type:=ty,pos,after,guard:=gd } v :=
  ⟨fun a w ha _=>by
    unfold field1B at hf
    split at hf
    · rename_i fs hfs
      split at hf
      · rename_i f hfi
        split at hf
        · rename_i d hd
          split at hf
          · cases hf
          · cases hf
            have hp:=Al1 (w:=w) hd (by simpa using ‹¬ isAggD d=true›) hv;simp [execOp,ha.eval hx,Instr.field,run_underlying hfs,hfi,asAgg,hp]
        · cases hf
      · cases hf
    · cases hf⟩
def isIntD:TypeDesc→Bool
  | .int _=>true
  | _=>false
theorem AC0 {o:Option TypeDesc} (h:o.any isIntD=true):∃ k,o=some (.int k):=by
  cases o with
  | none=>simp at h
  | some d=>cases d <;> simp [isIntD] at h;exact ⟨_,rfl⟩
theorem Bb9 {w:World} {t:TypeId} {k k0:IntKind} {x y:Int} (hu:P.underlying t=some (.int k0)) (m:Nat):(Op.equalIn (m + 1) t (.int k x) (.int k y)).run P w = .ok (x == y) w:=by
  simp [Op.equalIn,run_underlying hu]
/-! ### Unsigned numbers -/
theorem Val.shr {x y:Operand} {T yt:TypeId} {k k':IntKind} {a b:Int} (hx:rev r x=some (.int k a)) (hy:rev r y=some (.int k' b)) (h0:0≤a) (hb:0≤b) (hb':b≤k.bits) :
    Val P r W chg news { dst,op:=.binOp .shr T x y yt,type:=ty,pos,after,guard:=gd } (.int k (a / 2 ^ b.toNat)) :=
  ⟨fun ac w ha _=>by
    have h1:¬ b < 0:=by omega
    have h2:Min.min b.toNat k.bits=b.toNat:=Nat.min_eq_left (by omega);have h3:(0:Int)≤2 ^ b.toNat:=Int.le_of_lt (Int.pow_pos (by omega));simp [execOp,ha.eval hx,ha.eval hy,eqGuard,binOp,Op.shift,h1,h2,Int.fdiv_eq_ediv_of_nonneg _ h3]⟩
theorem Val.shl {x y:Operand} {T yt:TypeId} {k k':IntKind} {a b:Int} (hx:rev r x=some (.int k a)) (hy:rev r y=some (.int k' b)) (hb:0≤b) (hb':b≤k.bits) (hr:k.wrap (a * 2 ^ b.toNat)=a * 2 ^ b.toNat) :
    Val P r W chg news { dst,op:=.binOp .shl T x y yt,type:=ty,pos,after,guard:=gd } (.int k (a * 2 ^ b.toNat)) :=
  ⟨fun ac w ha _=>by
    have h1:¬ b < 0:=by omega
    have h2:Min.min b.toNat k.bits=b.toNat:=Nat.min_eq_left (by omega);simp [execOp,ha.eval hx,ha.eval hy,eqGuard,binOp,Op.shift,h1,h2,hr]⟩
theorem Val.and {x y:Operand} {T yt:TypeId} {k:IntKind} {a b:Nat} (hx:rev r x=some (.int k (a:Int))) (hy:rev r y=some (.int k (b:Int))) (ha':a < 2 ^ k.bits) (hb':b < 2 ^ k.bits) (hr:k.wrap ((a &&& b:Nat):Int)=((a &&& b:Nat):Int)) :
    Val P r W chg news { dst,op:=.binOp .and T x y yt,type:=ty,pos,after,guard:=gd } (.int k ((a &&& b:Nat):Int)) :=
  ⟨fun ac w ha _=>by
    have e:((BitVec.ofInt k.bits (a:Int)) &&& (BitVec.ofInt k.bits (b:Int))).toNat=a &&& b:=by
      simp [BitVec.toNat_and,BitVec.ofInt_natCast,BitVec.toNat_ofNat,Nat.mod_eq_of_lt ha',Nat.mod_eq_of_lt hb']
    simp only [execOp,ha.eval hx,ha.eval hy,eqGuard,binOp,Op.intBits,e,hr];simp [hr]⟩
theorem Val.or {x y:Operand} {T yt:TypeId} {k:IntKind} {a b:Nat} (hx:rev r x=some (.int k (a:Int))) (hy:rev r y=some (.int k (b:Int))) (ha':a < 2 ^ k.bits) (hb':b < 2 ^ k.bits) (hr:k.wrap ((a ||| b:Nat):Int)=((a ||| b:Nat):Int)) :
    Val P r W chg news { dst,op:=.binOp .or T x y yt,type:=ty,pos,after,guard:=gd } (.int k ((a ||| b:Nat):Int)) :=
  ⟨fun ac w ha _=>by
    have e:((BitVec.ofInt k.bits (a:Int)) ||| (BitVec.ofInt k.bits (b:Int))).toNat=a ||| b:=by
      simp [BitVec.toNat_or,BitVec.ofInt_natCast,BitVec.toNat_ofNat,Nat.mod_eq_of_lt ha',Nat.mod_eq_of_lt hb']
    simp only [execOp,ha.eval hx,ha.eval hy,eqGuard,binOp,Op.intBits,e,hr];simp [hr]⟩
theorem Cq9 {x y:Operand} {T yt:TypeId} {k k':IntKind} {a b:Nat} (hx:rev r x=some (.int k (a:Int))) (hy:rev r y=some (.int k' (b:Int))) (hb':b≤k.bits) :
    Val P r W chg news { dst,op:=.binOp .shr T x y yt,type:=ty,pos,after,guard:=gd } (.int k ((a >>> b:Nat):Int)):=by
  have h:=Val.shr (P:=P) (W:=W) (chg:=chg) (news:=news) (dst:=dst) (ty:=ty) (pos:=pos) (after:=after) (gd:=gd) (T:=T) (yt:=yt) hx hy (Int.natCast_nonneg a) (Int.natCast_nonneg b) (by exact_mod_cast hb');have e:(a:Int) / 2 ^ ((b:Int).toNat)=((a >>> b:Nat):Int):=by rw [Nat.shiftRight_eq_div_pow];simp
  rw [e] at h;exact h
theorem Bh1 {x y:Operand} {T yt:TypeId} {k k':IntKind} {b:Nat} (hx:rev r x=some (.int k 1)) (hy:rev r y=some (.int k' (b:Int))) (hb':b≤k.bits) (hr:k.wrap ((2 ^ b:Nat):Int)=((2 ^ b:Nat):Int)) :
    Val P r W chg news { dst,op:=.binOp .shl T x y yt,type:=ty,pos,after,guard:=gd } (.int k ((2 ^ b:Nat):Int)):=by
  have e:(1:Int) * 2 ^ ((b:Int).toNat)=((2 ^ b:Nat):Int):=by simp
  have h:=Val.shl (P:=P) (W:=W) (chg:=chg) (news:=news) (dst:=dst) (ty:=ty) (pos:=pos) (after:=after) (gd:=gd) (T:=T) (yt:=yt) hx hy (Int.natCast_nonneg b) (by exact_mod_cast hb') (by rw [e];exact hr);rw [e] at h;exact h
theorem u64_in {n:Nat} (h:n < 18446744073709551616):IntKind.u64.wrap (n:Int)=(n:Int):=by
  have h1:=IntWalk.u64_in (n:Int) ⟨by omega,by omega⟩;exact h1
theorem Bd5 {n:Nat} (h:n < 9223372036854775808):IntKind.i64.wrap (n:Int)=(n:Int):=IntWalk.i64_in _ ⟨by omega,by omega⟩
/-! ### A guard whose answer is known -/
theorem Al3 {ops:Array Oper} {Q:Exit→Act→World→Prop} {n:Nat} {ds:List Deferred} {l:List Oper} {b:Bool} {dj:Nat} (b0:Bool) (hj:rget r dj=some (.bool b)) (hb:b=b0) (h:RunL P ops Q n l ((dj,.bool b0)::r) ds W chg news):RunL P ops Q n l r ds W chg news:=fun a w s=>h a w (s.know hj (by rw [hb]))
theorem Ay0 {ops:Array Oper} {Q:Exit→Act→World→Prop} {n:Nat} {ds:List Deferred} {k fuel:Nat} {listed:Array Bool} {cp:Blks→Prop} {news0:Blks} {b:Bool} {dj:Nat} (b0:Bool) (hj:rget r dj=some (.bool b)) (hb:b=b0) (h:RunA P ops Q k cp news0 n fuel listed ((dj,.bool b0)::r) ds W chg news) :
    RunA P ops Q k cp news0 n fuel listed r ds W chg news:=fun a w s hcl=>h a w (s.know hj (by rw [hb])) hcl
/-! ### A slice in a block that is known whole -/
theorem AL8 {sz:Nat}:∀ (xs:List (List Value)) (i:Nat) (hi:i < xs.length) (j:Nat),(∀ x∈xs,x.length=sz)→j < sz→xs.flatten[i * sz + j]? = xs[i][j]?
  | [],i,hi,_,_,_=>by simp at hi
  | x::xs,0,_,j,hl,hj=>by
    have:=hl x (by simp)
    simp only [List.flatten_cons,Nat.zero_mul,Nat.zero_add,List.getElem_cons_zero];exact List.getElem?_append_left (by omega)
  | x::xs,i + 1,hi,j,hl,hj=>by
    have h0:=hl x (by simp);have ih:=AL8 xs i (by simpa using hi) j (fun y hy=>hl y (by simp [hy])) hj;simp only [List.flatten_cons,List.getElem_cons_succ];rw [List.getElem?_append_right (by rw [h0,Nat.add_mul];omega),h0,show (i + 1) * sz + j - sz=i * sz + j by rw [Nat.add_mul];omega];exact ih
theorem Sl.rows {w:World} {b:Nat} {T:TypeId} {fr:Nat×Nat} {sz:Nat} {xs:List (List Value)} (h:w.heap[b]? = some (.cells xs.flatten.toArray T fr)) (hl:∀ x∈xs,x.length=sz):Sl w (some ⟨b,0,none⟩) b 0 sz xs :=
  ⟨fun _=>rfl,hl,fun i hi j hj=>by
    rw [Ae6 h,← AL8 xs i hi j hl hj];simp⟩
end
/-! ### Short words for what is said often -/
theorem nH:(∀ (p:Prop) [Decidable p],(decide p=true)=p)∧(∀ (p:Prop) [Decidable p],(decide p=false) = ¬p)∧(∀ b:Bool,((!b)=true)=(b=false))∧(∀ b:Bool,((!b)=false)=(b=true))∧(∀ a b:Bool,((a && b)=true)=(a=true∧b=true)) ∧
    (∀ a b:Bool,((a || b)=true)=(a=true∨b=true))∧(∀ a b:Bool,((a && b)=false)=(a=false∨b=false))∧(∀ a b:Bool,((a || b)=false)=(a=false∧b=false))∧(∀ a b:Int,(¬a≤b)=(b < a))∧(∀ a b:Int,(¬a < b)=(b≤a)) :=
  ⟨fun p _=>decide_eq_true_eq,fun p _=>by simp,fun b=>by simp,fun b=>by simp,fun a b=>by simp,fun a b=>by simp,fun a b=>by cases a <;> simp,fun a b=>by simp,fun a b=>by simp,fun a b=>by simp⟩
theorem nC:(∀ l m:Blks,List.append l m=l++m)∧(∀ l:Blks,[]++l=l)∧(∀ (x:Nat×Obj) (l m:Blks),(x::l)++m=x::(l++m))∧(∀ [BEq (Nat×Obj)] (x:Nat×Obj) (l m:Blks),(l++m).count x=l.count x + m.count x) ∧
    (∀ [BEq (Nat×Obj)] (x y:Nat×Obj) (l:Blks),(y::l).count x=l.count x + if y == x then 1 else 0)∧(∀ [BEq (Nat×Obj)] (x:Nat×Obj),([]:Blks).count x=0) :=
  ⟨fun _ _=>rfl,fun _=>rfl,fun _ _ _=>rfl,fun x l m=>List.count_append,fun x y l=>List.count_cons,fun x=>List.count_nil⟩
section
variable {P:Program} {ops:Array Oper} {Q:Exit→Act→World→Prop} {n:Nat} {r:Regs} {ds:List Deferred} {W:World} {chg news:Blks} {rest:List Oper} {d:Nat}
theorem vp {o:Oper} {v:Value} (hv:pureV r o.op=some v) (hg:guardB ops r o.guard=some true) (hd:o.dst=some d) (hn:Nat.ble (d + 1) n=true) (h:RunL P ops Q n rest ((d,v)::r) ds W chg news):RunL P ops Q n (o::rest) r ds W chg news:=Aa0 (Aa8 hv) hg hd hn h
theorem csr {id:Nat} {l:List Oper} {y:Code} (h:RunL P l.toArray (Exit.then (y.wp P Q) Q) n l r ds W chg news):RunC P Q n (.seq (.region id l.toArray false) y) r ds W chg news:=RunC.seq (RunC.region h)
theorem nnx {y:Code} {Q':Exit→Act→World→Prop} (h:RunC P Q n y r ds W chg news):RunL P ops (Exit.then (y.wp P Q) Q') n [] r ds W chg news:=RunL.nil (RunE.next h)
theorem nsr {id:Nat} {l:List Oper} {y:Code} {Q':Exit→Act→World→Prop} (h:RunL P l.toArray (Exit.then (y.wp P Q) Q) n l r ds W chg news):RunL P ops (Exit.then ((Code.seq (.region id l.toArray false) y).wp P Q) Q') n [] r ds W chg news:=nnx (csr h)
theorem va {k fuel:Nat} {listed:Array Bool} {chg0 news0:Blks} (i:Nat) {o:Oper} {v:Value} (ho:ops[i]? = some o) (hv:Val P r W chg0 news0 o v) (hg:guardB ops r o.guard=some true) (hd:o.dst=some d) (hn:Nat.ble (d + 1) n=true) (hs:Pick news0 news) (hc:chg=chg0)
    (h:RunA P ops Q k (fun c=>c=chg0) news0 n fuel (listed.setIfInBounds i true) ((d,v)::r) ds W chg news) (hQ:∀ c a w,Q (.panic c) (a.put o.dst v) w→Q (.panic c) a w:=by exact fun _ _ _ h=>h) (hf:freeB ops k i=true:=by kernel_rfl) (hr:readyB ops listed i=true:=by kernel_rfl) :
    RunA P ops Q k (fun c=>c=chg0) news0 n (fuel + 1) listed r ds W chg news:=Cr0 ho hf hr hv hg hd hn hQ hs hc h
end
end Go.Eng
namespace Go.Eng
open Go Go.RowKit

def Fr (ro:Option Nat):Fence:={ fn:=fun _=>True,depth:=none,alive:=false,round:=ro }
def notDefer (o:Oper):Bool:=match o.op with
  | .defer _=>false
  | _=>true
theorem An7 {o:Oper} (h:notDefer o=true):∀ c,o.op ≠ .defer c:=fun c e=>by simp [notDefer,e] at h

section
variable {ro:Option Nat} {P:Program} {ops:Array Oper} {Q:Exit→Act→World→Prop} {n:Nat} {r:Regs} {ds:List Deferred} {W:World} {chg news:Blks} {rest:List Oper}
variable {d:Nat}

def RunCR (ro:Option Nat) (P:Program) (Q:Exit→Act→World→Prop) (n:Nat) (c:Code) (r:Regs) (ds:List Deferred) (W:World) (chg news:Blks):Prop :=
  ∀ a w,St n r ds W chg news a w→c.wpIn (Fr ro) 9 P Q a w
def RunLR (ro:Option Nat) (P:Program) (ops:Array Oper) (Q:Exit→Act→World→Prop) (n:Nat) (l:List Oper) (r:Regs) (ds:List Deferred) (W:World) (chg news:Blks):Prop :=
  ∀ a w,St n r ds W chg news a w→wpListIn (Fr ro) 9 P ops Q l a w

theorem AF7 {c:Code} (h:RunC P Q n c r ds W chg news):RunCR none P Q n c r ds W chg news:=fun a w s=>wpIn_wide.2 (h a w s)
theorem Bh8 {c:Code} (h:RunCR none P Q n c r ds W chg news):RunC P Q n c r ds W chg news:=fun a w s=>wpIn_wide.1 (h a w s)
theorem RunCR.seq {x y:Code} (h:RunCR ro P (Exit.then (y.wpIn (Fr ro) 9 P Q) Q) n x r ds W chg news):RunCR ro P Q n (.seq x y) r ds W chg news:=fun a w s=>wpIn_seq (h a w s)
theorem RunCR.block {id:Nat} {c:Code} (h:RunCR ro P (Exit.inBlock id Q) n c r ds W chg news):RunCR ro P Q n (.block id c) r ds W chg news:=fun a w s=>wpIn_block (h a w s)
theorem RunCR.skip (h:RunE Q n .normal r ds W chg news):RunCR ro P Q n .skip r ds W chg news:=fun a w s=>wpIn_skip (h a w s)
theorem RunCR.exit {id:Nat} (h:RunE Q n (.exit id) r ds W chg news):RunCR ro P Q n (.exit id) r ds W chg news:=fun a w s=>wpIn_exit (h a w s)
theorem RunCR.ret (h:RunE Q n .ret r ds W chg news):RunCR ro P Q n .ret r ds W chg news:=fun a w s=>wpIn_ret (h a w s)
theorem RunCR.cond {c:Operand} {x y:Code} {t:Bool} (hc:rev r c=some (.bool t)) (ht:t=true→RunCR ro P Q n x r ds W chg news) (hf:t=false→RunCR ro P Q n y r ds W chg news) :
    RunCR ro P Q n (.cond c x y) r ds W chg news:=fun a w s=>by
  refine wpIn_cond (s.agree.eval hc) ?_
  cases t
  · exact hf rfl a w s
  · exact ht rfl a w s
theorem RunCR.region {id:Nat} {l:List Oper} (h:RunLR ro P l.toArray Q n l r ds W chg news):RunCR ro P Q n (.region id l.toArray false) r ds W chg news:=fun a w s=>wpIn_region_lit (h a w s)
theorem RunLR.nil (h:RunE Q n .normal r ds W chg news):RunLR ro P ops Q n [] r ds W chg news:=fun a w s=>h a w s
theorem RunER.next {y:Code} {Q':Exit→Act→World→Prop} (h:RunCR ro P Q n y r ds W chg news):RunE (Exit.then (y.wpIn (Fr ro) 9 P Q) Q') n .normal r ds W chg news:=fun a w s=>h a w s

theorem Am9 {a:Act} {w:World} {o:Oper} (hw:Region.wanted o (yielded ops a.tmps)=true) (hnd:notDefer o=true)
    (h:∀ K:Act→World→Prop,(∀ a w,wpListIn (Fr ro) 9 P ops Q rest a w→K a w)→o.uponIn (Fr ro) 9 P a K Q ((execOp a.eval o).run P w)):wpListIn (Fr ro) 9 P ops Q (o::rest) a w :=
  wpListIn_step fun K hK=>by
    rw [if_pos hw];refine ⟨fun _ _=>trivial,?_⟩
    rw [Oper.semAt_eq _ _ _ (An7 hnd)];exact h K hK
theorem Ad0 {o:Oper} {v:Value} (hv:Val P r W chg news o v) (hg:guardB ops r o.guard=some true) (hd:o.dst=some d) (hn:Nat.ble (d + 1) n=true)
    (h:RunLR ro P ops Q n rest ((d,v)::r) ds W chg news) (hnd:notDefer o=true:=by rfl):RunLR ro P ops Q n (o::rest) r ds W chg news:=fun a w s =>
  Am9 (Ae3 s.agree hg) hnd fun K hK=>by
    rw [hv.run a w s.agree s.mem,Oper.uponIn_value,hd];exact hK _ _ (h _ _ (s.put (Nat.le_of_ble_eq_true hn) v))
theorem Cg4 {o:Oper} {v:Nat→Value} {ob:Obj} (hv:New P r W chg news o v ob) (hg:guardB ops r o.guard=some true) (hd:o.dst=some d) (hn:Nat.ble (d + 1) n=true)
    (h:∀ b,RunLR ro P ops Q n rest ((d,v b)::r) ds W chg ((b,ob)::news)) (hnd:notDefer o=true:=by rfl):RunLR ro P ops Q n (o::rest) r ds W chg news:=fun a w s =>
  Am9 (Ae3 s.agree hg) hnd fun K hK=>by
    rw [hv.run a w s.agree s.mem,Oper.uponIn_value,hd];have s2:=s.put (Nat.le_of_ble_eq_true hn) (v w.heap.size);exact hK _ _ (h _ _ _ ⟨s2.size,s2.agree,s2.defers,s.mem.alloc ob⟩)
theorem AF6 {o:Oper} {chg' news':Blks} (hv:Sto P r W chg news o chg' news') (hg:guardB ops r o.guard=some true) (hd:o.dst=none)
    (h:RunLR ro P ops Q n rest r ds W chg' news') (hnd:notDefer o=true:=by rfl):RunLR ro P ops Q n (o::rest) r ds W chg news:=fun a w s =>
  Am9 (Ae3 s.agree hg) hnd fun K hK=>by
    obtain ⟨w',h1,h2⟩:=hv.run a w s.agree s.mem;rw [h1,Oper.uponIn_skip,hd];exact hK _ _ (h _ _ ⟨s.size,s.agree,s.defers,h2⟩)
theorem AS3 {o:Oper} {f:FuncId} {args:Array Value} {v:Value} (hi:IsCall P r o f args) (hg:guardB ops r o.guard=some true) (hd:o.dst=some d) (hn:Nat.ble (d + 1) n=true)
    (hc:∀ w,Mem W chg news w→Calls P f args w (Pure v w)) (h:RunLR ro P ops Q n rest ((d,v)::r) ds W chg news) (hnd:notDefer o=true:=by rfl):RunLR ro P ops Q n (o::rest) r ds W chg news:=fun a w s =>
  Am9 (Ae3 s.agree hg) hnd fun K hK=>by
    rw [hi.runs a w s.agree,Oper.uponIn_enter];refine ⟨fun h=>(by cases h),?_⟩
    have hc':CallsIn Fence.wide 8 P f args w (Pure v w):=callsIn_wide.2 (hc w s.mem)
    have hc2:CallsIn (Fr ro) 8 P f args w (Pure v w):=by
      cases ro with
      | none=>exact hc'
      | some l=>exact CallsIn.inRound l hc'
    refine hc2.mono ?_
    rintro e w' ⟨rfl,hm⟩
    show K _ _
    rw [hd];have s2:=s.put (Nat.le_of_ble_eq_true hn) v;exact hK _ _ (h _ _ ⟨s2.size,s2.agree,s2.defers,s.mem.pass hm⟩)

theorem BI7 {o:Oper} {a:Act} {K K' L:Act→World→Prop} (h:∀ a w,K a w→K' a w) {x:Result Next} (hh:o.uponIn (Fr ro) 9 P a K (SegQ Q L) x):o.uponIn (Fr ro) 9 P a K' Q x:=by
  cases x with
  | ok nx w' =>
    cases nx <;> simp only [Oper.uponIn] at hh ⊢ <;>
      first
        | exact h _ _ hh
        | exact ⟨hh.1,hh.2.mono (fun e w'' he=>by cases e <;> first | exact h _ _ he | exact he)⟩
        | exact ⟨hh.1,RowsIn.mono hh.2 (fun _ _ he=>h _ _ he)⟩
        | exact hh
  | halt x w'=>cases x <;> simp only [Oper.uponIn] at hh ⊢ <;> exact hh
theorem Ar3 {K:Act→World→Prop} {l2:List Oper} (hK:∀ a w,K a w→wpListIn (Fr ro) 9 P ops Q l2 a w):∀ (l:List Oper) (a:Act) (w:World),wpListIn (Fr ro) 9 P ops (SegQ Q K) l a w→wpListIn (Fr ro) 9 P ops Q (l++l2) a w
  | [],a,w,h=>hK a w h
  | o::l,a,w,h=>by
    simp only [wpListIn,List.cons_append] at h ⊢
    split
    · rename_i hw
      rw [if_pos hw] at h;exact ⟨h.1,BI7 (Ar3 hK l) h.2⟩
    · rename_i hw
      rw [if_neg hw] at h;exact ⟨h.1,Ar3 hK l _ _ h.2⟩
theorem RunLR.part {l:List Oper} {q:Regs} (k:Nat) (h1:RunLR ro P ops (SegQ Q (St n q ds W chg news)) n (l.take k) r ds W chg news) (h2:RunLR ro P ops Q n (l.drop k) q ds W chg news):RunLR ro P ops Q n l r ds W chg news:=by
  have h:RunLR ro P ops Q n (l.take k++l.drop k) r ds W chg news:=fun a w s=>Ar3 h2 _ a w (h1 a w s)
  rwa [List.take_append_drop] at h
/-! ### A call of the round -/
structure IsYield (P:Program) (r:Regs) (o:Oper) (l:Nat) (args:Array Value):Prop where
  runs:∀ a w,Agree a r→(execOp a.eval o).run P w=(Instr.yield l args).run P w
theorem Ae2 {x:Operand} {l:Nat} {xs:List Operand} {vs:List Value} {ats:Array TypeId} {dst:Option Tmp} {gd:Option (Nat×Bool)} {ty:TypeId} {pos:String} {after:Array Edge} (hv:rev r x=some (.func (.yield l) #[] #[])) (hx:revs r xs=some vs) :
    IsYield P r { dst,op:=.call { callee:=.value x,args:=xs.toArray,argTypes:=ats },type:=ty,pos,after,guard:=gd } l vs.toArray :=
  ⟨fun a w ha=>by
    have h1:=ha.evals hx;simp [execOp,resolve,h1,ha.eval hv,Deferred.ofValue,invoke]⟩
theorem RunLR.yield {o:Oper} {l:Nat} {args:Array Value} {RY:Bool→World→Prop} (hi:IsYield P r o l args) (hg:guardB ops r o.guard=some true) (hd:o.dst=some d) (hn:Nat.ble (d + 1) n=true)
    (hy:∀ w,Mem W chg news w→YieldAt (Fr none) 8 P l args w fun e w'=>∃ b,e = .returned (.bool b)∧RY b w')
    (h:∀ b W',RY b W'→RunLR none P ops Q n rest ((d,.bool b)::r) ds W' [] []) (hnd:notDefer o=true:=by rfl):RunLR none P ops Q n (o::rest) r ds W chg news:=fun a w s =>
  Am9 (Ae3 s.agree hg) hnd fun K hK=>by
    obtain ⟨fn,tmps,assign,body,hy1,hy2⟩:=hy w s.mem;rw [hi.runs a w s.agree,hy1,Oper.uponIn_round];refine ⟨fun h=>(by cases h),hy2.mono ?_⟩
    rintro e w' ⟨b,rfl,hb⟩
    show K _ _
    rw [hd];have s2:=s.put (Nat.le_of_ble_eq_true hn) (.bool b);exact hK _ _ (h b w' hb _ _ ⟨s2.size,s2.agree,s2.defers,Mem.refl _⟩)

def RoundW (n:Nat) (ds:List Deferred) (N:Nat) (Inv:Nat→World→Prop) (R:Nat→Regs) (k:Nat) (a:Act) (w:World):Prop :=
  ∃ k',k < k'∧k'≤N∧Inv k' w∧St n (R k') ds w [] [] a w
theorem St.rebase {q:Regs} {a:Act} {w:World} (s:St n r ds W chg news a w) (hs:Sub q r):St n q ds w [] [] a w:=⟨s.size,s.agree.sub hs,s.defers,Mem.refl w⟩
theorem RunCR.loopW {body:Code} {q:Regs} (N:Nat) (R:Nat→Regs→Regs) (Inv:Nat→World→Prop) (h0:∀ w,Mem W chg news w→Inv 0 w) (hs:Sub (R 0 q) r)
    (hb:∀ k W',k≤N→Inv k W'→RunCR ro P (Exit.then (RoundW n ds N Inv (fun k=>R k q) k) Q) n body (R k q) ds W' [] []):RunCR ro P Q n (.loop body) r ds W chg news:=by
  have key:∀ (m k:Nat),N - k < m→k≤N→∀ a w,Inv k w→St n (R k q) ds w [] [] a w→Code.roundsIn (Fr ro) 9 P body Q m a w:=by
    intro m
    induction m with
    | zero=>intro k h;omega
    | succ m ih =>
      intro k hk hN a w hi s;rw [roundsIn_succ];refine wpIn_mono (hb k w hN hi a w s) ?_
      rintro e a2 w2 hq
      cases e with
      | normal =>
        obtain ⟨k',h1,h2,h3,s2⟩:=hq;exact ih k' (by omega) h2 a2 w2 h3 s2
      | exit id=>exact hq
      | goto l=>exact hq
      | ret=>exact hq
      | panic c=>exact hq
      | outgrown=>exact hq
  intro a w s;exact wpIn_loop_rounds _ (key _ 0 (Nat.lt_succ_self _) (Nat.zero_le _) a w (h0 w s.mem) (s.rebase hs))
/-! ### Functions that hold such a loop -/
theorem As8 {c:Code} {m k:Nat} {a:Act} {w:World} (h:c.wpIn (Fr ro) m P Q a w):c.wpIn (Fr ro) k P Q a w:=fun b i cs h1 h2 _=>h b i cs h1 h2 (fun _ hd=>by cases hd)
/-! ### The loop itself -/
def KpX (B:Nat) (nm:List Nat) (W W':World):Prop:=∀ k,k < B→k ∉ nm→W'.heap[k]? = W.heap[k]?
def BodyQ (W:World) (V:Blks):Exit→Act→World→Prop
  | .normal,_,w=>Mem W V [] w
  | _,_,_=>False
theorem Ad9 {l:Blks} {b:Nat}:b∈l.map (·.1) ↔ ∃ o,(b,o)∈l:=by simp
theorem Mem.round {w w':World} {V V' n0:Blks} (h:Mem W chg (V++n0) w) (h':Mem w V' [] w') (hm:V'.map (·.1)=V.map (·.1)):Mem W chg (V'++n0) w':=by
  have hV:∀ b,(∃ o,(b,o)∈V') ↔ ∃ o,(b,o)∈V:=fun b=>by rw [← Ad9,← Ad9,hm]
  have hge:∀ b o,(b,o)∈V'→W.heap.size≤b:=fun b o hb=>by
    obtain ⟨o2,h2⟩:=(hV b).1 ⟨o,hb⟩;exact (h.newd b o2 (List.mem_append.2 (.inl h2))).1
  have hnd:=h.once;refine ⟨h'.os.trans h.os,h'.tape.trans h.tape,h'.output.trans h.output,Nat.le_trans h.size h'.size,fun k hk hc=>?_,fun b o hb=>?_,fun b o hb=>?_,?_⟩
  · rw [h'.old k (Nat.lt_of_lt_of_le hk h.size) (fun o ho=>by have:=hge k o ho;omega)]
    exact h.old k hk hc
  · have h1:=h.chgd b o hb
    refine ⟨h1.1,?_⟩
    rw [h'.old b (Nat.lt_of_lt_of_le h1.1 h.size) (fun o2 ho=>by have:=hge b o2 ho;omega)];exact h1.2
  · rcases List.mem_append.1 hb with hb | hb
    · exact ⟨hge b o hb,(h'.chgd b o hb).2⟩
    · have h1:=h.newd b o (List.mem_append.2 (.inr hb))
      refine ⟨h1.1,?_⟩
      rw [h'.old b (h.lt_new (List.mem_append.2 (.inr (List.mem_append.2 (.inr hb))))) (fun o2 ho=>?_)]
      · exact h1.2
      · obtain ⟨o3,h3⟩:=(hV b).1 ⟨o2,ho⟩
        rw [List.map_append,List.map_append,List.nodup_append] at hnd;have h4:=(List.nodup_append.1 hnd.2.1).2.2 b (Ad9.2 ⟨o3,h3⟩) b (Ad9.2 ⟨o,hb⟩);exact h4 rfl
  · have e:(chg++(V'++n0)).map (·.1)=(chg++(V++n0)).map (·.1):=by simp [List.map_append,hm]
    rw [e];exact hnd
theorem Mem.turned {w w':World} {row:Option Nat} {B:Nat} (h:Mem W chg news w) (hg:w.grownBy w' row) (hr:∀ k,row=some k→B≤k) (hlt:∀ b o,(b,o)∈chg++news→b < B) (hW:W.heap.size≤B):Mem W chg news w':=by
  have hne:∀ k,k < B→some k ≠ row:=fun k hk e=>by have:=hr k e.symm;omega
  refine ⟨hg.os.trans h.os,hg.tape.trans h.tape,hg.output.trans h.output,Nat.le_trans h.size hg.size,fun k hk hc=>?_,fun b o hb=>?_,fun b o hb=>?_,h.once⟩
  · rw [hg.block k (Nat.lt_of_lt_of_le hk h.size) (hne k (by omega))];exact h.old k hk hc
  · have h1:=h.chgd b o hb
    exact ⟨h1.1,by rw [hg.block b (h.lt_new (List.mem_append.2 (.inl hb))) (hne b (hlt b o (List.mem_append.2 (.inl hb))))];exact h1.2⟩
  · have h1:=h.newd b o hb
    exact ⟨h1.1,by rw [hg.block b (h.lt_new (List.mem_append.2 (.inr hb))) (hne b (hlt b o (List.mem_append.2 (.inr hb))))];exact h1.2⟩

theorem RunC.rangeFunc {α:Type} {g:Operand} {p q gf N id:Nat} {lb:Array Value} {enc:α→Value} {S:List α→Prop} {oA:Oper} {body:Code} (V:List α→Blks) (n0:Blks)
    (hg:rev r g=some (.func (.func gf) #[] lb)) (he:Enters P gf) (hn:Pick (V []++n0) news) (hnm:∀ pre,(V pre).map (·.1)=(V []).map (·.1)) (hcl:∀ pre b o,(b,o)∈V pre→o.isCells=true)
    (hseq:∀ w,Mem W chg (V []++n0) w→SeqStopsK (Fr none) 8 P gf lb (fun x=>#[enc x]) (KpX w.heap.size ((V []).map (·.1))) S (fun _=>True) N w)
    (hp:Nat.ble (p + 1) n=true) (hq:Nat.ble (q + 1) n=true) (hA:∀ v,pureV ((p,v)::r) oA.op=some v) (hAg:oA.guard=none) (hAd:oA.dst=some q) (hAn:notDefer oA=true)
    (hbody:∀ l pre x W1,pre.length < N→Mem W chg (V pre++n0) W1→RunCR (some l) P (BodyQ W1 (V (pre++[x]))) n body ((q,enc x)::(p,enc x)::r) [] W1 (V pre) [])
    (h:∀ xs D,S xs→RunE Q n .normal r ({ target:=.collected D,args:=#[] }::ds) W chg ((D,.deferred (some []))::(V xs++n0))) :
    RunC P Q n (.rangeFunc g #[p] (.region id #[oA] false) body) r ds W chg news:=fun a w s=>by
  have s0:=s.mem.pick hn
  have hlt:∀ pre b o,(b,o)∈chg++(V pre++n0)→b < w.heap.size:=fun pre b o hb=>by
    rcases List.mem_append.1 hb with hb | hb
    · exact s0.lt_new (List.mem_append.2 (.inl hb))
    · rcases List.mem_append.1 hb with hb | hb
      · have:b∈(V pre).map (·.1):=Ad9.2 ⟨o,hb⟩
        rw [hnm pre] at this;obtain ⟨o2,h2⟩:=Ad9.1 this;exact s0.lt_new (List.mem_append.2 (.inr (List.mem_append.2 (.inl h2))))
      · exact s0.lt_new (List.mem_append.2 (.inr (List.mem_append.2 (.inr hb))))
  have hge:∀ pre b o,(b,o)∈V pre→W.heap.size≤b:=fun pre b o hb=>by
    have:b∈(V pre).map (·.1):=Ad9.2 ⟨o,hb⟩
    rw [hnm pre] at this;obtain ⟨o2,h2⟩:=Ad9.1 this;exact (s0.newd b o2 (List.mem_append.2 (.inl h2))).1
  have hown:OwnFrom w.heap.size (fun (pre:List α) W'=>Mem W chg (V pre++n0) W'∧w.heap.size≤W'.heap.size):=fun pre A B row hI hgr hr=>⟨hI.1.turned hgr (fun k e=>(hr k e).1) (hlt pre) s0.size,Nat.le_trans hI.2 hgr.size⟩
  refine (wpIn_wide (n:=9)).1 ?_
  show Code.wpIn (Fr none) 9 P _ Q a w
  refine wpIn_rangeFunc_ownG (F:=Fr none) (n:=9) rfl (by decide) (s.agree.eval hg) trivial he (hseq w s0) (fun {A B C} h1 h2 k hk hne=>(h2 k hk hne).trans (h1 k hk hne)) ?_ (Below.refl _ w) (fun _=>rfl)
    (fun pre W'=>Mem W chg (V pre++n0) W'∧w.heap.size≤W'.heap.size) (fun _ _ _=>False) hown (fun _ _ _ _ _ hf _ _=>hf) ⟨s0,Nat.le_refl _⟩ (fun x=>({ tmps:=a.tmps.setIfInBounds p (enc x),defers:=[] }:Act).put (some q) (enc x)) ?assign ?body ?done ?stop
  · intro W' l o o' hl _ _ _ k hk _
    exact World.putObj_heap_other (by omega)
  case assign =>
    intro l x W' K hK;have hsz:p < a.tmps.size:=by rw [s.size];exact Nat.le_of_ble_eq_true hp
    have hag:Agree (({ tmps:=a.tmps,defers:=[] }:Act).put (some p) (enc x)) ((p,enc x)::r):=Agree.put (a:={ tmps:=a.tmps,defers:=[] }) (fun t u ht=>s.agree t u ht) hsz;have e:(#[p].zip #[enc x]).foldl (fun t (pv:Nat×Value)=>t.setIfInBounds pv.1 pv.2) a.tmps=a.tmps.setIfInBounds p (enc x):=by simp
    refine wpIn_region_lit (l:=[oA]) (wpListIn_plain hAg fun K2 hK2=>?_)
    refine ⟨fun _ _=>trivial,?_⟩
    rw [Oper.semAt_eq _ _ _ (An7 hAn)];have hrun:=AB6 (P:=P) (o:=oA) hag (hA (enc x)) W';have e2:(({ tmps:=a.tmps,defers:=[] }:Act).put (some p) (enc x))={ tmps:=(#[p].zip #[enc x]).foldl (fun t (pv:Nat×Value)=>t.setIfInBounds pv.1 pv.2) a.tmps,defers:=[] }:=by rw [e];rfl
    rw [e2] at hrun;rw [hrun,Oper.uponIn_value,hAd];refine hK2 _ _ ?_
    show K _ _
    rw [e];exact hK
  case body =>
    intro l pre x W1 ⟨hI,hsz1⟩ hlen;have hsz:p < a.tmps.size:=by rw [s.size];exact Nat.le_of_ble_eq_true hp
    have hsz2:q < a.tmps.size:=by rw [s.size];exact Nat.le_of_ble_eq_true hq
    have hag:Agree (({ tmps:=a.tmps,defers:=[] }:Act).put (some p) (enc x)) ((p,enc x)::r):=Agree.put (a:={ tmps:=a.tmps,defers:=[] }) (fun t u ht=>s.agree t u ht) hsz;have hag2:=hag.put (d:=q) (v:=enc x) (by simp [Act.put];exact hsz2)
    have hst:Mem W1 (V pre) [] W1:=⟨rfl,rfl,rfl,Nat.le_refl _,fun _ _ _=>rfl,fun b o hb=>⟨hI.lt_new (List.mem_append.2 (.inr (List.mem_append.2 (.inl hb)))),(hI.newd b o (List.mem_append.2 (.inl hb))).2⟩,fun _ _ hb=>(by cases hb),by
      have:=hI.once
      rw [List.map_append,List.map_append,List.nodup_append] at this;simpa using (List.nodup_append.1 this.2.1).1⟩
    have hb:=hbody l pre x W1 hlen hI _ W1 ⟨by simp [Act.put,s.size],hag2,rfl,hst⟩;refine wpIn_mono (As8 hb) ?_;intro e a2 w2 hq
    cases e with
    | normal =>
      have hq:Mem W1 (V (pre++[x])) [] w2:=hq;have hnot:∀ k,k ∉ (V []).map (·.1)→∀ o,(k,o) ∉ V (pre++[x]):=fun k hk o ho=>hk (by rw [← hnm (pre++[x])];exact Ad9.2 ⟨o,ho⟩)
      refine ⟨⟨hq.size,fun k o hB hk ho=>?_⟩,fun k hk hne=>hq.old k (Nat.lt_of_lt_of_le hk hsz1) (hnot k hne),hI.round hq (by rw [hnm,hnm pre]),Nat.le_trans hsz1 hq.size⟩
      · rw [hq.old k (Array.getElem?_eq_some_iff.1 hk).1 (fun o2 ho2=>?_)]
        · exact hk
        · have:=hlt (pre++[x]) k o2 (List.mem_append.2 (.inr (List.mem_append.2 (.inl ho2))))
          omega
    | exit id=>exact hq.elim
    | goto l=>exact hq.elim
    | ret=>exact hq.elim
    | panic c=>exact hq.elim
    | outgrown=>exact hq.elim
  case done =>
    intro D xs W' hD hS ⟨hI,_⟩ hK;refine h xs D hS _ W' ⟨s.size,s.agree,by rw [← s.defers],?_⟩
    refine { hI with newd:=fun b o hb=>?_,once:=?_ }
    · rcases List.mem_cons.1 hb with hb | hb
      · cases hb;exact ⟨Nat.le_trans s0.size hD,hK⟩
      · exact hI.newd b o hb
    · have hnd:=hI.once
      rw [List.map_append,List.nodup_append] at hnd ⊢;refine ⟨hnd.1,?_,?_⟩
      · rw [List.map_cons,List.nodup_cons]
        refine ⟨fun hm=>?_,hnd.2.1⟩
        obtain ⟨o,ho⟩:=Ad9.1 hm
        have:=hlt xs D o (List.mem_append.2 (.inr ho))
        omega
      · intro b hb c hc
        rw [List.map_cons,List.mem_cons] at hc
        rcases hc with rfl | hc
        · obtain ⟨o,ho⟩:=Ad9.1 hb
          have:=hlt xs b o (List.mem_append.2 (.inl ho))
          intro e;subst e;omega
        · exact hnd.2.2 b hb c hc
  case stop =>
    intro D c pre W' _ _ hf;exact hf.elim

/-! ### Leaving such a function: the loop's mark, and one deferred call -/
structure CatchesIn (P:Program) (f:FuncId) (T:TypeId) (mis:Int→Value):Prop where
  calm:∀ b w,CallsDIn Fence.wide 8 P f #[.pointer (some ⟨b,0,none⟩)] .returning w fun e u w'=>(∃ v,e = .returned v)∧u = .returning∧Mem w [] [] w'
  wild:∀ b k x w,w.heap[b]? = some (.cells #[x] T (0,0))→CallsDIn Fence.wide 8 P f #[.pointer (some ⟨b,0,none⟩)] (.panicking [{ v:=mis k,recovered:=false }]) w fun e u w' =>
    (∃ v,e = .returned v)∧u = .panicking [{ v:=mis k,recovered:=true }]∧Mem w [(b,.cells #[.int .i64 k] T (0,0))] [] w'
theorem Ai9 {f:FuncId} {fn:Func} {c:Code} {vs:List Value} {R:Ending→World→Prop} (hf:P.funcs[f]? = some fn) (hb:fn.body=some c) (hn:Nat.ble vs.length fn.ntmps=true)
    (h:RunC P (bodyPostM Fence.wide 9 P fn R) fn.ntmps c (args0 0 vs) [] W [] []):Calls P f vs.toArray W R :=
  (callsIn_wide (n:=9)).1 (callsIn_of_wp_marks hf hb trivial (wpIn_wide.2 (h _ _ (Av2 (Nat.le_of_ble_eq_true hn) (Mem.refl W)))) rfl)
theorem Mem.putNew {w:World} {D:Nat} {o:Obj} (o':Obj) (h:Mem W chg ((D,o)::news) w):Mem W chg news (w.putObj D o'):=by
  have hD:=(h.newd D o (List.mem_cons_self ..)).1;have hnd:=h.once;rw [List.map_append,List.map_cons,List.nodup_append,List.nodup_cons] at hnd;refine ⟨h.os,h.tape,h.output,by simpa using h.size,fun k hk hc=>?_,fun b o2 hb=>?_,fun b o2 hb=>?_,?_⟩
  · rw [World.putObj_heap_other (by omega)];exact h.old k hk hc
  · have h1:=h.chgd b o2 hb
    exact ⟨h1.1,by rw [World.putObj_heap_other (by omega)];exact h1.2⟩
  · have h1:=h.newd b o2 (List.mem_cons_of_mem _ hb)
    refine ⟨h1.1,?_⟩
    rw [World.putObj_heap_other (fun e=>hnd.2.1.1 (by subst e;exact Ad9.2 ⟨o2,hb⟩))];exact h1.2
  · rw [List.map_append,List.nodup_append]
    exact ⟨hnd.1,hnd.2.1.2,fun a ha b hb=>hnd.2.2 a ha b (List.mem_cons_of_mem _ hb)⟩
theorem RunLR.ways {l:List Oper} {b:Bool} {dj:Nat} (hj:rget r dj=some (.bool b)) (h1:b=true→RunLR ro P ops Q n l ((dj,.bool true)::r) ds W chg news) (h2:b=false→RunLR ro P ops Q n l ((dj,.bool false)::r) ds W chg news):RunLR ro P ops Q n l r ds W chg news:=fun a w s=>by
  cases b with
  | true=>exact h1 rfl a w (s.know hj rfl)
  | false=>exact h2 rfl a w (s.know hj rfl)
theorem Bu5 {m k l:Nat} {args:Array Value} {w:World} {R R':Ending→World→Prop} (h:YieldAt (Fr none) m P l args w R) (hR:∀ e w',R e w'→R' e w'):YieldAt (Fr none) k P l args w R':=by
  obtain ⟨fn,tmps,assign,body,h1,h2⟩:=h;exact ⟨fn,tmps,assign,body,h1,trivial,fun c cs _=>let ⟨e,w',r,s⟩:=h2.2 c cs (fun _ hd=>by cases hd);⟨e,w',hR _ _ r,s⟩⟩
theorem Mem.apart {w:World} {V n0:Blks} (h:Mem W chg (V++n0) w) {b:Nat} {o:Obj} (hb:(b,o)∈n0):b < w.heap.size∧b ∉ V.map (·.1):=by
  refine ⟨h.lt_new (List.mem_append.2 (.inr (List.mem_append.2 (.inr hb)))),fun hc=>?_⟩
  have hnd:=h.once;rw [List.map_append,List.map_append,List.nodup_append] at hnd;exact (List.nodup_append.1 hnd.2.1).2.2 b hc b (Ad9.2 ⟨o,hb⟩) rfl
end
end Go.Eng
/- The engine: arguments that are read as data, by their shapes; and a law's statement out of its walk. No program is in sight. -/
namespace Go.Eng
open Go Go.RowKit Go.ChangeShapes Go.WideShapes Go.ChangeAt

inductive Sh where
  | int (k:IntKind)
  | bool
  | str
  | st (l:List Sh)
  | sl (e:Sh)
mutual
def Sh.size:Sh→Nat
  | .st l=>sizes l
  | _=>1
def sizes:List Sh→Nat
  | []=>0
  | s::l=>s.size + sizes l
end
def offsB (P:Program):Nat→List Field→List Sh→Bool
  | _,[],[]=>true
  | o,f::fs,s::l=>f.offset == o && P.cellsOf f.type == s.size && offsB P (o + s.size) fs l
  | _,_,_=>false
def shapeB (P:Program):Nat→TypeId→Option Sh
  | 0,_=>none
  | n + 1,t=>match P.underlying t with
    | some .bool=>some .bool
    | some (.int k)=>some (.int k)
    | some .string=>some .str
    | some (.slice e)=>match shapeB P n e with
      | some s=>if P.cellsOf e=s.size∧0 < s.size then some (.sl s) else none
      | none=>none
    | some (.struct fs)=>match fs.toList.mapM (fun f=>shapeB P n f.type) with
      | some l=>if offsB P 0 fs.toList l=true∧P.cellsOf t=sizes l then some (.st l) else none
      | none=>none
    | _=>none

inductive Rd (w:World):Sh→List Value→Prop
  | int {k:IntKind} {n:Int} (h:(Lit.int k n).wf=true):Rd w (.int k) [.int k n]
  | bool {b:Bool}:Rd w .bool [.bool b]
  | str {s:ByteArray} (h:s.size≤maxLen):Rd w .str [.string s]
  | rec0:Rd w (.st []) []
  | recS {s:Sh} {l:List Sh} {cs ds:List Value} (h:Rd w s cs) (hl:Rd w (.st l) ds):Rd w (.st (s::l)) (cs++ds)
  | slNil {e:Sh}:Rd w (.sl e) [.slice none 0 0]
  | sl {e:Sh} {a:Addr} {cap:Nat} {xs:List (List Value)} (h:Sl w (some a) a.block a.off e.size xs) (hl:xs.length≤cap) (hc:cap≤maxLen) (hx:∀ x∈xs,Rd w e x):Rd w (.sl e) [.slice (some a) xs.length cap]
def Sh.val:Sh→List Value→Value
  | .st _,cs=>.agg cs.toArray
  | _,cs=>cs.headD undef
inductive RdAll (w:World):List Sh→List Value→Prop
  | nil:RdAll w [] []
  | cons {s:Sh} {l:List Sh} {cs:List Value} {vs:List Value} (h:Rd w s cs) (hl:RdAll w l vs):RdAll w (s::l) (s.val cs::vs)

theorem BW0 {α:Type} {p:Nat→α→Prop}:∀ n:Nat,(∀ i,i < n→∃ x,p i x)→∃ xs:List α,xs.length=n∧∀ i (h:i < xs.length),p i xs[i]
  | 0,_=>⟨[],rfl,fun i h=>by simp at h⟩
  | n + 1,h=>by
    obtain ⟨xs,hl,hx⟩:=BW0 n (fun i hi=>h i (by omega));obtain ⟨x,hp⟩:=h n (by omega);refine ⟨xs++[x],by simp [hl],fun i hi=>?_⟩
    rw [List.getElem_append]
    split
    · exact hx i _
    · simp only [List.length_append,List.length_singleton] at hi
      obtain rfl:i=n:=by omega
      simpa using hp

section
variable {H:Type} {enc:TypeId×Value→H} {P:Program} {w:World} {base:Nat} {spare:Nat→Bool} {held:Bool}
theorem Bl0 {cs:List Value}:∀ (fs:List Field) (l:List Sh) (o:Nat),offsB P o fs l=true→(∀ (i:Nat) (f:Field) (s:Sh),fs[i]? = some f→l[i]? = some s→Rd w s ((cs.drop f.offset).take (P.cellsOf f.type)))→cs.length=o + sizes l→Rd w (.st l) (cs.drop o)
  | [],[],o,_,_,hl=>by rw [List.drop_of_length_le (by simp [sizes] at hl;omega)];exact .rec0
  | [],_::_,_,h,_,_=>by simp [offsB] at h
  | _::_,[],_,h,_,_=>by simp [offsB] at h
  | f::fs,s::l,o,h,hr,hl=>by
    simp only [offsB,Bool.and_eq_true,beq_iff_eq] at h;obtain ⟨⟨h1,h2⟩,h3⟩:=h;have r0:=hr 0 f s rfl rfl;rw [h1,h2] at r0;have r1:=Bl0 fs l (o + s.size) h3 (fun i f' s' hf hs=>hr (i + 1) f' s' (by simpa using hf) (by simpa using hs)) (by simp only [sizes] at hl;omega)
    have e:cs.drop o=(cs.drop o).take s.size++cs.drop (o + s.size):=by
      rw [← List.drop_drop,List.take_append_drop]
    rw [e];exact .recS r0 r1
theorem CR1:∀ (n fuel:Nat) (t:TypeId) (sh:Sh) (cs:List Value) (x:DataW H×List MemPlace),shapeB P n t=some sh→DataW.trod enc P w base spare held fuel t cs=some x→Rd w sh cs:=by
  intro n
  induction n with
  | zero=>intro fuel t sh cs x hs;cases hs
  | succ n ih =>
    intro fuel t sh cs x hs h;unfold shapeB at hs
    split at hs
    · rename_i hu
      cases hs
      cases fuel with
      | zero=>simp [DataW.trod] at h
      | succ fuel =>
        unfold DataW.trod at h;rw [hu] at h
        split at h <;> simp_all <;> exact .bool
    · rename_i k hu
      cases hs
      cases fuel with
      | zero=>simp [DataW.trod] at h
      | succ fuel =>
        unfold DataW.trod at h;rw [hu] at h
        split at h <;> simp_all
        rename_i h1;obtain ⟨rfl,rfl⟩:=h1;exact .int h.1.2
    · rename_i hu
      cases hs
      cases fuel with
      | zero=>simp [DataW.trod] at h
      | succ fuel =>
        unfold DataW.trod at h;rw [hu] at h
        split at h <;> simp_all
        exact .str h.1
    · rename_i e hu
      split at hs
      · rename_i s he
        split at hs
        · rename_i hc
          cases hs
          rcases Deep.open_slice hu h with ⟨rfl,_⟩ | ⟨a,len,cap,m,n',D,Pl,rfl,hb,hl,hm,hmm,hx,hi⟩
          · exact .slNil
          · have hle:len≤m:=by rw [hmm];split <;> omega
            obtain ⟨xs,hxl,hxs⟩:=BW0 (p:=fun i cs'=>w.cells? base (a.add (i * P.cellsOf e)) (P.cellsOf e)=some cs'∧DataW.trod enc P w base spare held n' e cs'=some (D i,Pl i)) len (fun i h=>hi i (by omega));subst hxl;refine .sl ⟨fun hne=>?_,fun x hx=>?_,fun i hi j hj=>?_⟩ hl hm (fun x hx=>?_)
            · have h0:0 < xs.length:=List.length_pos_iff.2 hne
              obtain ⟨_,h2,h3⟩:=World.cells?_some (hxs 0 h0).1;have h4:=h3 0 (by omega);rw [List.getElem?_eq_getElem (by omega)] at h4;have h5:=World.cell?_spot h4;obtain ⟨b,o,sp⟩:=a;simp only [Nat.zero_mul,Addr.add,if_true] at h5;rw [h5]
            · obtain ⟨i,hi,rfl⟩:=List.getElem_of_mem hx
              have:=(World.cells?_some (hxs i hi).1).2.1
              omega
            · obtain ⟨_,h2,h3⟩:=World.cells?_some (hxs i hi).1
              rw [hc.1] at h2 h3;have h4:=h3 j hj;rw [← h4]
              have hsp:a.spot=none:=by
                obtain ⟨_,h2',h3'⟩:=World.cells?_some (hxs 0 (by omega)).1;have h4':=h3' 0 (by omega);rw [List.getElem?_eq_getElem (by omega)] at h4';have h5:=World.cell?_spot h4';simpa [Addr.add] using h5
              obtain ⟨b,o,sp⟩:=a;simp only at hsp
              subst hsp
              congr 1
              unfold Addr.add
              by_cases hz:i * s.size=0 <;> by_cases hz2:j=0 <;> simp [hz,hz2]
            · obtain ⟨i,hi,rfl⟩:=List.getElem_of_mem hx
              exact ih _ _ _ _ _ he (hxs i hi).2
        · cases hs
      · cases hs
    · rename_i fs hu
      split at hs
      · rename_i l he
        split at hs
        · rename_i hc
          cases hs
          obtain ⟨xs,n',_,_,hlen,hxl,hf⟩:=DataW.trod_struct hu h
          have hll:∀ (i:Nat) (f:Field) (s:Sh),fs.toList[i]? = some f→l[i]? = some s→shapeB P n f.type=some s:=by
            clear hc hf hxl
            generalize fs.toList=fl at he
            induction fl generalizing l with
            | nil=>intro i f s h;simp at h
            | cons f0 fl ihf =>
              simp only [List.mapM_cons,Option.bind_eq_bind,Option.bind_eq_some_iff,Option.pure_def,Option.some.injEq] at he;obtain ⟨s0,h0,l0,hl0,rfl⟩:=he;intro i f s hi hs
              cases i with
              | zero=>simp at hi hs;subst hi;subst hs;exact h0
              | succ i=>exact ihf l0 hl0 i f s (by simpa using hi) (by simpa using hs)
          have:=Bl0 (cs:=cs) fs.toList l 0 hc.1 (fun i f s hi hs=>by
            have h1:=hf i f (by simpa using hi);have hlt:i < fs.size:=by have:=(List.getElem?_eq_some_iff.1 hi).1;simpa using this
            rw [List.getElem?_eq_getElem (by omega)] at h1;exact ih _ _ _ _ _ (hll i f s hi hs) h1) (by omega)
          simpa using this
        · cases hs
      · cases hs
    · cases hs
theorem CI0 {n:Nat} {r:Reach} {b0:Nat} {t:TypeId} {sh:Sh} {v:Value} (hs:shapeB P n t=some sh) (hv:Value.okWide P w r b0 t v):v=sh.val v.cells.toList:=by
  cases n with
  | zero=>cases hs
  | succ n =>
    unfold shapeB at hs
    split at hs
    · rename_i hu;cases hs;obtain ⟨b,rfl⟩:=okWide_bool hu hv;rfl
    · rename_i hu;cases hs;obtain ⟨b,rfl⟩:=okWide_int hu hv;rfl
    · rename_i hu;cases hs;obtain ⟨b,rfl⟩:=okWide_string hu hv;rfl
    · rename_i hu
      obtain ⟨a,l,c,rfl⟩:=okWide_slice hu hv
      split at hs
      · split at hs
        · cases hs;rfl
        · cases hs
      · cases hs
    · rename_i hu
      obtain ⟨cs,rfl,_⟩:=okWide_struct hu hv
      split at hs
      · split at hs
        · cases hs;simp [Sh.val,Value.cells]
        · cases hs
      · cases hs
    · cases hs
theorem BE8 {n:Nat} {r:Reach} {b0:Nat}:∀ {ts:List TypeId} {shs:List Sh} {vs:List Value} {ds:List (DataW H)} {ps:List MemPlace},ts.mapM (shapeB P n)=some shs →
    (∀ (j:Nat) t v,ts[j]? = some t→vs[j]? = some v→Value.okWide P w r b0 t v)→DataW.TrodAll enc P w base spare held ts vs ds ps→RdAll w shs vs
  | [],shs,vs,ds,ps,hs,_,h=>by
    obtain ⟨rfl,_,_⟩:=trodAll_nil h;simp at hs;subst hs;exact .nil
  | t::ts,shs,vs,ds,ps,hs,hv,h=>by
    obtain ⟨v,vs',d,ds',p,q,rfl,rfl,rfl,h0,hr⟩:=trodAll_cons h;simp only [List.mapM_cons,Option.bind_eq_bind,Option.bind_eq_some_iff,Option.pure_def,Option.some.injEq] at hs;obtain ⟨s0,hs0,l0,hl0,rfl⟩:=hs;obtain ⟨fuel,hf⟩:=h0;have hr':=CR1 n fuel t s0 _ _ hs0 hf;have hv0:=CI0 hs0 (hv 0 t v rfl rfl);have ih:=BE8 hl0 (fun j t' v' hj hv'=>hv (j + 1) t' v' (by simpa using hj) (by simpa using hv')) hr;rw [hv0];exact .cons hr' ih
end

/-! ### The law's statement -/
theorem AC9 {H:Type} {enc:TypeId×Value→H} {P:Program} (hl:laidOutB P=true) {W W':World} (hb:Below W.heap.size W W'):∀ {ts:List TypeId} {vs:List Value} {ds:List (DataW H)} {ps:List MemPlace},
    ts.all (fun t=>P.readableRec t && decide (t < P.types.size))=true→DataW.TrodAll enc P W 0 (fun _=>true) true ts vs ds ps→DataW.TrodAll enc P W' 0 (fun b=>decide (b < W.heap.size)) true ts vs ds ps
  | [],[],[],_,_,h=>h
  | [],_::_,_,_,_,h=>h.elim
  | [],[],_::_,_,_,h=>h.elim
  | _::_,[],_,_,_,h=>h.elim
  | _::_,_::_,[],_,_,h=>h.elim
  | t::ts,v::vs,d::ds,ps,hp,h=>by
    obtain ⟨p,q,h0,hr,rfl⟩:=h;simp only [List.all_cons,Bool.and_eq_true,decide_eq_true_eq] at hp;have hlt:∀ x∈p,x.block < W.heap.size:=by obtain ⟨m,hm⟩:=h0;exact DataW.trod_lt m _ _ _ hm
    exact ⟨p,q,Below.trod hl hp.1.1 hp.1.2 h0 hb hlt,AC9 hl hb (by simpa [List.all_eq_true] using hp.2) hr,rfl⟩

end Go.Eng
/- The engine: more facts on one operation. No program is in sight. -/
namespace Go.Eng
open Go Go.RowKit

section
variable {P:Program} {r:Regs} {W:World} {chg news:Blks}
variable {ty:TypeId} {pos:String} {after:Array Edge} {dst:Option Tmp} {gd:Option (Nat×Bool)}
def boolB (P:Program) (T:TypeId):Bool:=match P.underlying T with | some .bool=>!P.eqGuardType P.depth T | _=>false
theorem Cf5 {T:TypeId} (h:boolB P T=true):P.underlying T=some .bool∧P.eqGuardType P.depth T=false:=by
  unfold boolB at h
  split at h
  · rename_i hu;exact ⟨hu,by simpa using h⟩
  · cases h
theorem At3 {x y:Operand} {T yt:TypeId} {a b:Bool} (hx:rev r x=some (.bool a)) (hy:rev r y=some (.bool b)) (h:boolB P T=true) :
    Val P r W chg news { dst,op:=.binOp .eql T x y yt,type:=ty,pos,after,guard:=gd } (.bool (a == b)) :=
  ⟨fun ac w ha _=>by
    obtain ⟨hu,hg⟩:=Cf5 h
    have h1:(Op.equal T (.bool a) (.bool b)).run P w = .ok (a == b) w:=by
      show (Op.equalIn (9999 + 1) T (.bool a) (.bool b)).run P w=_
      rw [Op.equalIn];simp [run_underlying hu]
    simp [execOp,ha.eval hx,ha.eval hy,eqGuard,hg,binOp,h1]⟩
end
end Go.Eng
/- The engine: slices that the function makes by append. No program is in sight. -/
namespace Go.Eng
open Go Go.RowKit

abbrev Own:=Option (Nat×Nat×List Value)
def ownV (x:Own) (n:Nat):Value:=match x with
  | none=>.slice none 0 0
  | some (b,c,_)=>.slice (some ⟨b,0,none⟩) n c
def ownB (e:TypeId) (x:Own) (xs:List Value):Blks:=match x with
  | none=>[]
  | some (b,_,r)=>[(b,.cells (xs++r).toArray e (0,0))]
def ownRow (x:Own):Option Nat:=match x with
  | none=>none
  | some (b,_,_)=>some b
structure OwnOk (sz:Nat) (x:Own) (n:Nat) (xs:List Value):Prop where
  len:xs.length=n * sz
  nil:x=none→n=0
  cap:∀ b c r,x=some (b,c,r)→n≤c∧c≤maxLen∧(xs++r).length=c * sz
theorem OwnOk.start {sz:Nat}:OwnOk sz none 0 []:=⟨by simp,fun _=>rfl,fun _ _ _ h=>by cases h⟩
theorem OwnOk.has {sz:Nat} {x:Own} {n:Nat} {xs:List Value} (h:OwnOk sz x n xs) (hn:0 < n):∃ b c r,x=some (b,c,r)∧n≤c∧c≤maxLen∧(xs++r).length=c * sz:=by
  match x,h with
  | .none,h=>have:=h.nil rfl;omega
  | .some (b,c,r),h=>exact ⟨b,c,r,rfl,h.cap b c r rfl⟩
theorem OwnOk.owns {sz:Nat} {x:Own} {n:Nat} {xs:List Value} {e:TypeId} {w:World} {base:Nat} (h:OwnOk sz x n xs) (hm:∀ b o,(b,o)∈ownB e x xs→base≤b∧w.heap[b]? = some o):w.ownsRow base e sz (ownV x n) n xs:=by
  match x,h with
  | .none,h=>exact ⟨h.len,.inl ⟨rfl,h.nil rfl⟩⟩
  | .some (b,c,r),h =>
    obtain ⟨h1,h2⟩:=hm b (.cells (xs++r).toArray e (0,0)) (by simp [ownB]);obtain ⟨c1,c2,c3⟩:=h.cap b c r rfl;exact ⟨h.len,.inr ⟨b,c,_,rfl,h1,h2,c1,c2,by simpa using c3,by simp [← h.len]⟩⟩

theorem Mem.swap {W w w':World} {chg A B:Blks} {e:TypeId} {x y:Own} {xs ys:List Value} (h:Mem W chg (A++(ownB e x xs++B)) w) (hg:w.grownBy w' (ownRow x))
    (hy:∀ b c r,y=some (b,c,r)→((∃ c' r',x=some (b,c',r'))∨w.heap.size≤b)∧w'.heap[b]? = some (.cells (ys++r).toArray e (0,0))):Mem W chg (A++(ownB e y ys++B)) w':=by
  have hrow:∀ k,(ownRow x)=some k→W.heap.size≤k∧(∀ o,(k,o) ∉ chg)∧(∀ o,(k,o) ∉ A)∧(∀ o,(k,o) ∉ B):=by
    intro k hk
    match x,hk with
    | .some (b,c,r),hk =>
      obtain rfl:b=k:=Option.some.inj hk;have h1:=h.once;refine ⟨(h.newd b (.cells (xs++r).toArray e (0,0)) (by simp [ownB])).1,fun o ho=>?_,fun o ho=>?_,fun o ho=>?_⟩
      all_goals
        simp only [ownB,List.map_append,List.map_cons,List.map_nil,List.nodup_append,List.mem_append,List.mem_map,List.mem_cons,List.not_mem_nil,or_false] at h1
      · exact h1.2.2 b ⟨_,ho,rfl⟩ b (.inr (.inl rfl)) rfl
      · exact h1.2.1.2.2 b ⟨_,ho,rfl⟩ b (.inl rfl) rfl
      · exact h1.2.1.2.1.2.2 b rfl b ⟨_,ho,rfl⟩ rfl
  have keep:∀ k o,w.heap[k]? = some o→(ownRow x) ≠ some k→w'.heap[k]? = some o:=fun k o hk hne=>by rw [hg.block k (lt_of_block hk) (fun e=>hne e.symm)];exact hk
  refine ⟨hg.os.trans h.os,hg.tape.trans h.tape,hg.output.trans h.output,Nat.le_trans h.size hg.size,fun k hk hc=>?_,fun b o hb=>?_,fun b o hb=>?_,?_⟩
  · rw [hg.block k (by have:=h.size;omega) (fun e=>by have:=(hrow k e.symm).1;omega)]
    exact h.old k hk hc
  · have h1:=h.chgd b o hb
    exact ⟨h1.1,keep b o h1.2 (fun e=>(hrow b e).2.1 o hb)⟩
  · rcases List.mem_append.1 hb with ha | hb
    · have h1:=h.newd b o (List.mem_append_left _ ha)
      exact ⟨h1.1,keep b o h1.2 (fun e=>(hrow b e).2.2.1 o ha)⟩
    · rcases List.mem_append.1 hb with ho | hB
      · match y,ho with
        | .some (b',c',r'),ho =>
          simp only [ownB,List.mem_cons,List.not_mem_nil,or_false,Prod.mk.injEq] at ho;obtain ⟨rfl,rfl⟩:=ho;obtain ⟨h1,h2⟩:=hy b c' r' rfl;refine ⟨?_,h2⟩
          rcases h1 with ⟨c,r,rfl⟩ | h1
          · exact (hrow b rfl).1
          · have:=h.size;omega
      · have h1:=h.newd b o (List.mem_append_right _ (List.mem_append_right _ hB))
        exact ⟨h1.1,keep b o h1.2 (fun e=>(hrow b e).2.2.2 o hB)⟩
  · have h1:=h.once
    have hlt:∀ b o,(b,o)∈chg++(A++(ownB e x xs++B))→b < w.heap.size:=fun b o hb=>h.lt_new hb
    match y with
    | .none =>
      refine h1.sublist ?_;simp only [ownB,List.nil_append];exact ((List.Sublist.refl _).append ((List.Sublist.refl _).append (List.sublist_append_right _ _))).map _
    | .some (b',c',r') =>
      obtain ⟨h2,_⟩:=hy b' c' r' rfl
      have hne:(∀ o,(b',o) ∉ chg)∧(∀ o,(b',o) ∉ A)∧(∀ o,(b',o) ∉ B):=by
        rcases h2 with ⟨c,r,rfl⟩ | h2
        · exact (hrow b' rfl).2
        · refine ⟨fun o ho=>?_,fun o ho=>?_,fun o ho=>?_⟩
          · have:=hlt b' o (List.mem_append_left _ ho);omega
          · have:=hlt b' o (List.mem_append_right _ (List.mem_append_left _ ho));omega
          · have:=hlt b' o (List.mem_append_right _ (List.mem_append_right _ (List.mem_append_right _ ho)));omega
      have h3:((chg++(A++B)).map (·.1)).Nodup:=h1.sublist (((List.Sublist.refl _).append ((List.Sublist.refl _).append (List.sublist_append_right _ _))).map _);simp only [ownB,List.map_append,List.map_cons,List.map_nil,List.nodup_append,List.mem_append,List.mem_map,List.mem_cons,List.not_mem_nil,or_false,List.nodup_cons,List.nodup_nil,not_false_eq_true,and_true,true_and] at h3 ⊢;obtain ⟨a1,⟨a2,a3,a4⟩,a5⟩:=h3;refine ⟨a1,⟨a2,⟨a3,?_⟩,?_⟩,?_⟩
      · rintro _ rfl z ⟨⟨k,o⟩,hk,rfl⟩ he
        exact hne.2.2 o (by rw [he];exact hk)
      · rintro u ⟨⟨k,o⟩,hk,rfl⟩ z (rfl | hz) he
        · exact hne.2.1 o (by rw [← he];exact hk)
        · exact a4 _ ⟨_,hk,rfl⟩ z hz he
      · rintro u ⟨⟨k,o⟩,hk,rfl⟩ z (hz | rfl | hz) he
        · exact a5 _ ⟨_,hk,rfl⟩ z (.inl hz) he
        · exact hne.1 o (by rw [← he];exact hk)
        · exact a5 _ ⟨_,hk,rfl⟩ z (.inr hz) he

section
variable {P:Program} {ops:Array Oper} {Q:Exit→Act→World→Prop} {n:Nat} {r:Regs} {ds:List Deferred} {W:World} {chg news:Blks} {rest:List Oper}
variable {d:Nat} {ty:TypeId} {pos:String} {after:Array Edge} {dst:Option Tmp} {gd:Option (Nat×Bool)}

def apB (P:Program) (T:TypeId):Option (TypeId×Nat×Nat) :=
  match P.underlying T with
  | some (.slice e)=>match P.info? e with
    | some i=>match i.zero with
      | some z=>if z.cells.size=i.size∧0 < i.size then some (e,i.size,i.bytes) else none
      | none=>none
    | none=>none
  | _=>none
theorem Bg9 {T e:TypeId} {sz by_:Nat} (h:apB P T=some (e,sz,by_)):P.underlying T=some (.slice e)∧∃ i z,P.info? e=some i∧i.zero=some z∧i.size=sz∧i.bytes=by_∧z.cells.size=sz∧0 < sz:=by
  unfold apB at h
  split at h
  · rename_i e' hu
    split at h
    · rename_i i hi
      split at h
      · rename_i z hz
        split at h
        · rename_i hc
          cases h
          exact ⟨hu,i,z,hi,hz,rfl,rfl,hc.1,hc.2⟩
        · cases h
      · cases h
    · cases h
  · cases h
theorem Az2 {T e:TypeId} {sz by_ tt:Nat} (hT:apB P T=some (e,sz,by_)) {A B:Blks} {x:Own} {k m c:Nat} {q:Option Addr} {xs ys:List Value} {w:World} (hm:Mem W chg (A++(ownB e x xs++B)) w) (hx:OwnOk sz x k xs)
    (hy:ys.length=m * sz) (hq:q=none→m=0∧c=0) (hc:∀ j u,ys[j]? = some u→∃ ad,q=some ad∧w.cell? (ad.add j)=some u) (h1:∀ u∈ys,u.oneCell'=true) (b1:k + m≤maxLen) (b2:(k + m) * by_≤140737488355328) :
    ∃ y w',(Builtin.append_ #[T,T] tt #[ownV x k,.slice q m c]).run P w = .ok (ownV y (k + m)) w'∧OwnOk sz y (k + m) (xs++ys)∧Mem W chg (A++(ownB e y (xs++ys)++B)) w':=by
  obtain ⟨hu,i,z,hi,hz,rfl,rfl,hzs,hsz⟩:=Bg9 hT;have hown:w.ownsRow W.heap.size e i.size (ownV x k) k xs:=hx.owns (fun b o hb=>hm.newd b o (List.mem_append_right _ (List.mem_append_left _ hb)));have hlen:(xs++ys).length=(k + m) * i.size:=by rw [List.length_append,hx.len,hy,Nat.add_mul]
  cases q with
  | none =>
    obtain ⟨rfl,rfl⟩:=hq rfl;obtain rfl:ys=[]:=List.eq_nil_of_length_eq_zero (by simpa using hy);refine ⟨x,w,?_,?_,?_⟩
    · exact run_append_owned_none (P:=P) w W.heap.size T tt e i i.size hu hi _ k xs hown
    · simpa using hx
    · simpa using hm
  | some ad =>
    have hc':∀ j u,ys[j]? = some u→w.cell? (ad.add j)=some u:=fun j u h=>by obtain ⟨ad',h2,h3⟩:=hc j u h;cases h2;exact h3
    match x,hx,hm,hown with
    | .none,hx,hm,hown =>
      have hk:=hx.nil rfl;subst hk;obtain rfl:xs=[]:=List.eq_nil_of_length_eq_zero (by simpa using hx.len);obtain ⟨v',w',hrun,ho,hg,hiff⟩:=run_append_own (P:=P) w w.heap.size T tt e i z i.size i.bytes hu hi hz rfl rfl hzs hsz (.slice none 0 0) 0 [] (World.ownsRow_nil w _ e i.size) ad m c ys hy hc' h1 b1 b2 (Nat.le_refl _)
      rcases ho.2 with ⟨rfl,h0⟩ | ⟨g,cap,cur,rfl,hge,hgb,hnc,hcm,hcs,htk⟩
      · refine ⟨none,w',hrun,⟨hlen,fun _=>h0,fun _ _ _ h=>by cases h⟩,?_⟩
        exact hm.swap hg (fun b c r h=>by cases h)
      · refine ⟨.some (g,cap,cur.toList.drop ((0 + m) * i.size)),w',hrun,⟨hlen,fun h=>(by cases h),fun b c r h=>?_⟩,?_⟩
        · cases h
          refine ⟨hnc,hcm,?_⟩
          rw [← htk,List.take_append_drop];simpa using hcs
        · refine hm.swap hg (fun b c r h=>?_)
          cases h
          refine ⟨.inr hge,?_⟩
          rw [← htk,List.take_append_drop];simpa using hgb
    | .some (b,cap,r),hx,hm,hown =>
      obtain ⟨c1,c2,c3⟩:=hx.cap b cap r rfl;have hbb:=(hm.newd b (.cells (xs++r).toArray e (0,0)) (List.mem_append_right _ (List.mem_append_left _ (by simp [ownB])))).2
      by_cases hfit:k + m≤cap
      · obtain ⟨w',hrun,ho,hg⟩:=run_append_fits (P:=P) w W.heap.size T tt e i i.size hu hi rfl b k cap xs hown ad m c ys hy hc' h1 hfit
        rcases ho.2 with ⟨h0,_⟩ | ⟨g,cap',cur,hv,hge,hgb,hnc,hcm,hcs,htk⟩
        · cases h0
        · cases hv
          refine ⟨.some (b,cap,cur.toList.drop ((k + m) * i.size)),w',hrun,⟨hlen,fun h=>(by cases h),fun b c r h=>?_⟩,?_⟩
          · cases h
            refine ⟨hnc,hcm,?_⟩
            rw [← htk,List.take_append_drop];simpa using hcs
          · refine hm.swap hg (fun b c r h=>?_)
            cases h
            refine ⟨.inl ⟨_,_,rfl⟩,?_⟩
            rw [← htk,List.take_append_drop];simpa using hgb
      · have holds:∀ j u,xs[j]? = some u→w.cell? ((⟨b,0,none⟩:Addr).add j)=some u:=fun j u hj=>by
          have hj':=(List.getElem?_eq_some_iff.1 hj).1;rw [add_plain,Ae6 hbb];simp [List.getElem?_append_left hj',hj]
        obtain ⟨v',w',hrun,ho,hg⟩:=run_append_arg_grows (P:=P) w T tt e i z i.size i.bytes hu hi hz rfl rfl hzs hsz ⟨b,0,none⟩ k cap xs hx.len holds ad m c ys hy hc' (by omega) b1 b2;have hg':w.grownBy w' (some b):=⟨hg.os,hg.tape,hg.output,hg.size,fun k hk _=>hg.block k hk (by simp)⟩
        rcases ho.2 with ⟨rfl,h0⟩ | ⟨g,cap',cur,rfl,hge,hgb,hnc,hcm,hcs,htk⟩
        · refine ⟨none,w',hrun,⟨hlen,fun _=>h0,fun _ _ _ h=>by cases h⟩,?_⟩
          exact hm.swap hg' (fun b c r h=>by cases h)
        · refine ⟨.some (g,cap',cur.toList.drop ((k + m) * i.size)),w',hrun,⟨hlen,fun h=>(by cases h),fun b c r h=>?_⟩,?_⟩
          · cases h
            refine ⟨hnc,hcm,?_⟩
            rw [← htk,List.take_append_drop];simpa using hcs
          · refine hm.swap hg' (fun b c r h=>?_)
            cases h
            refine ⟨.inr hge,?_⟩
            rw [← htk,List.take_append_drop];simpa using hgb

theorem RunL.append {s y:Operand} {T e:TypeId} {sz by_:Nat} (A B:Blks) (x:Own) {k m c:Nat} {q:Option Addr} {xs:List Value} (ys:List Value) (hT:apB P T=some (e,sz,by_)) (hn:news=A++(ownB e x xs++B))
    (hs:rev r s=some (ownV x k)) (hy:rev r y=some (.slice q m c)) (hx:OwnOk sz x k xs) (hl:ys.length=m * sz) (hq:q=none→m=0∧c=0)
    (hc:∀ w,Mem W chg news w→∀ j u,ys[j]? = some u→∃ ad,q=some ad∧w.cell? (ad.add j)=some u) (h1:∀ u∈ys,u.oneCell'=true) (b1:k + m≤maxLen) (b2:(k + m) * by_≤140737488355328) (hd:Nat.ble (d + 1) n=true)
    (h:∀ z,OwnOk sz z (k + m) (xs++ys)→RunL P ops Q n rest ((d,ownV z (k + m))::r) ds W chg (A++(ownB e z (xs++ys)++B))) :
    RunL P ops Q n ({ dst:=some d,op:=.call { callee:=.builtin .append,args:=#[s,y],argTypes:=#[T,T] },type:=ty,pos,after,guard:=none }::rest) r ds W chg news:=fun a w st =>
  wpList_plain rfl fun K hK=>by
    have hm:=st.mem;rw [hn] at hm;obtain ⟨z,w',hrun,ho,hm'⟩:=Az2 (P:=P) (tt:=ty) hT hm hx hl hq (hc w st.mem) h1 b1 b2;unfold Oper.wp;simp [execOp,resolve,invoke,builtin,st.agree.eval hs,st.agree.eval hy,hrun,Result.andThen]
    refine hK _ _ (h z ho _ _ ?_)
    have st2:=st.put (Nat.le_of_ble_eq_true hd) (ownV z (k + m));exact ⟨st2.size,st2.agree,st2.defers,hm'⟩
theorem As4 {T e:TypeId} {sz:Nat} (hT:slB P T=some (e,sz)) :
    New P r W chg news { dst,op:=.buildSlice T 0 #[],type:=ty,pos,after,guard:=gd } (fun b=>.slice (some ⟨b,0,none⟩) 0 0) (.cells [].toArray e (0,0)) :=
  ⟨fun a w ha _=>by
    unfold slB at hT
    split at hT
    · rename_i e' hu
      cases hj:P.info? e' with
      | none=>simp [hj] at hT
      | some j =>
        simp only [hj,Option.map_some,Option.some.injEq,Prod.mk.injEq] at hT;obtain ⟨rfl,rfl⟩:=hT
        have hrun:(Instr.buildSlice T 0 #[]).run P w = .ok (.slice (some ⟨w.heap.size,0,none⟩) 0 0) (w.alloc (.cells #[] e')):=by
          unfold Instr.buildSlice;simp [run_underlying hu,sizeOf,typeInfo,hj,newRow,newObj,Sem.run,Instr.fill,show Array.range 0 = #[] from by simp [Array.range]]
        simp [execOp,hrun]
    · cases hT⟩

theorem Pick.skip {x:Nat×Obj} {l l':Blks} (h:Pick l l'):Pick l (x::l'):=by
  have key:∀ {a b:Blks},Pick a b→∀ y,Pick a (y::b):=by
    intro a b hp
    induction hp with
    | nil=>intro y;exact .nil
    | cons ht he hr ih=>intro y;exact .cons (.there ht) he (ih y)
  exact key h x

def RoundX {X:Type} (n:Nat) (ds:List Deferred) (W:World) (chg:Nat→X→Blks) (N:Nat) (Inv:Nat→X→Prop) (R:Nat→X→Regs) (Nw:Nat→X→Blks) (k:Nat) (a:Act) (w:World):Prop :=
  ∃ k' x',k < k'∧k'≤N∧Inv k' x'∧St n (R k' x') ds W (chg k' x') (Nw k' x') a w
theorem Aj3 {X:Type} {body:Code} {q:Regs} (n0:Blks) (N:Nat) (R:Nat→X→Regs→Regs) (C V T:Nat→X→Blks) (Inv:Nat→X→Prop) (x0:X) (h0:Inv 0 x0) (hc:chg=C 0 x0) (hs:Sub (R 0 x0 q) r) (hn:Pick (V 0 x0++(n0++T 0 x0)) news)
    (hb:∀ k x,k≤N→Inv k x→RunC P (Exit.then (RoundX n ds W C N Inv (fun k x=>R k x q) (fun k x=>V k x++(n0++T k x)) k) Q) n body (R k x q) ds W (C k x) (V k x++(n0++T k x))):RunC P Q n (.loop body) r ds W chg news:=by
  have key:∀ (m k:Nat) (x:X),N - k < m→k≤N→Inv k x→∀ a w,St n (R k x q) ds W (C k x) (V k x++(n0++T k x)) a w→Code.rounds P body Q m a w:=by
    intro m
    induction m with
    | zero=>intro k x h;omega
    | succ m ih =>
      intro k x hk hN hi a w s;rw [rounds_succ];refine wp_mono (hb k x hN hi a w s) ?_
      rintro e a2 w2 hq
      cases e with
      | normal =>
        obtain ⟨k',x',h1,h2,h3,s2⟩:=hq;exact ih k' x' (by omega) h2 h3 a2 w2 s2
      | exit id=>exact hq
      | goto l=>exact hq
      | ret=>exact hq
      | panic c=>exact hq
      | outgrown=>exact hq
  intro a w s;subst hc;exact wp_loop_rounds _ (key _ 0 x0 (Nat.lt_succ_self _) (Nat.zero_le _) h0 a w (s.pick hs hn))
theorem Ae7 {X:Type} {C:Nat→X→Blks} {N:Nat} {Inv:Nat→X→Prop} {R:Nat→X→Regs} {Nw:Nat→X→Blks} {k:Nat} (x:X) (hN:k + 1≤N) (hi:Inv (k + 1) x) (hc:chg=C (k + 1) x) (hs:Sub (R (k + 1) x) r) (hn:Pick (Nw (k + 1) x) news) :
    RunE (Exit.then (RoundX n ds W C N Inv R Nw k) Q) n .normal r ds W chg news:=fun _ _ s=>⟨k + 1,x,Nat.lt_succ_self _,hN,hi,by subst hc;exact s.pick hs hn⟩

theorem Sl.rowsR {w:World} {b:Nat} {T:TypeId} {fr:Nat×Nat} {sz:Nat} {xs:List (List Value)} {t:List Value} (h:w.heap[b]? = some (.cells (xs.flatten++t).toArray T fr)) (hl:∀ x∈xs,x.length=sz):Sl w (some ⟨b,0,none⟩) b 0 sz xs :=
  ⟨fun _=>rfl,hl,fun i hi j hj=>by
    have h2:=AL8 xs i hi j hl hj
    have h3:i * sz + j < xs.flatten.length:=by
      have h4:xs[i].length=sz:=hl _ (List.getElem_mem hi);rw [List.getElem?_eq_getElem (show j < xs[i].length by omega)] at h2;exact (List.getElem?_eq_some_iff.1 h2).1
    rw [Ae6 h,← h2];simp [List.getElem?_append_left h3]⟩
theorem Sl.flat {w:World} {p:Option Addr} {b o sz:Nat} {xs:List (List Value)} (h:Sl w p b o sz xs) (hz:0 < sz):∀ j u,xs.flatten[j]? = some u→∃ ad,p=some ad∧w.cell? (ad.add j)=some u:=by
  intro j u hj
  have hfl:xs.flatten.length=xs.length * sz:=by
    have:∀ l:List (List Value),(∀ x∈l,x.length=sz)→l.flatten.length=l.length * sz:=by
      intro l
      induction l with
      | nil=>intro _;simp
      | cons y l ih=>intro hy;simp only [List.flatten_cons,List.length_append,List.length_cons,hy y (by simp),ih (fun z hz=>hy z (by simp [hz])),Nat.add_mul];omega
    exact this xs h.len
  have hjl:=(List.getElem?_eq_some_iff.1 hj).1;have hi:j / sz < xs.length:=by rw [Nat.div_lt_iff_lt_mul hz];omega
  have hr:j % sz < sz:=Nat.mod_lt _ hz;have he:j / sz * sz + j % sz=j:=by rw [Nat.mul_comm];exact Nat.div_add_mod j sz
  have h1:=AL8 xs (j / sz) hi (j % sz) h.len hr;rw [he,hj] at h1;refine ⟨_,h.ptr hi,?_⟩
  have h2:=h.cell (j / sz) hi (j % sz) hr;rw [Nat.add_assoc,he] at h2;rw [add_plain,h2,h1]
theorem OwnOk.empty {sz b:Nat}:OwnOk sz (some (b,0,[])) 0 []:=⟨by simp,fun _=>rfl,fun _ _ _ h=>by cases h;simp [maxLen]⟩
theorem Ah3 {w:World} {b:Nat} {T:TypeId} {fr:Nat×Nat} {ys:List Value} (h:w.heap[b]? = some (.cells ys.toArray T fr)):∀ j u,ys[j]? = some u→∃ ad,(some ⟨b,0,none⟩:Option Addr)=some ad∧w.cell? (ad.add j)=some u:=fun j u hj =>
  ⟨_,rfl,by rw [add_plain,Ae6 h];simpa using hj⟩
theorem Ak2 {ys:List Value} (h:ys.all (·.oneCell')=true):∀ u∈ys,u.oneCell'=true:=fun u hu=>List.all_eq_true.1 h u hu
theorem AL4 {α:Type} {f:α→List Value} (hf:∀ a,(f a).all (·.oneCell')=true) (l:List α):∀ u∈(l.map f).flatten,u.oneCell'=true:=fun u hu=>by
  obtain ⟨x,hx,hu⟩:=List.mem_flatten.1 hu;obtain ⟨a,_,rfl⟩:=List.mem_map.1 hx;exact Ak2 (hf a) u hu
theorem AE8 {α:Type} {f:α→List Value} {sz:Nat} (hf:∀ a,(f a).length=sz):∀ l:List α,(l.map f).flatten.length=l.length * sz
  | []=>by simp
  | a::l=>by simp only [List.map_cons,List.flatten_cons,List.length_append,List.length_cons,hf a,AE8 hf l,Nat.add_mul];omega
theorem Pick.same {l l':Blks} (h:l=l'):Pick l l':=h ▸ Pick.refl l
theorem RunI.append {i:Nat} {K:Act→World→Prop} {s y:Operand} {T e:TypeId} {sz by_:Nat} (A B:Blks) (x:Own) {k m c:Nat} {q:Option Addr} {xs:List Value} (ys:List Value)
    (ho:ops[i]? = some { dst:=some d,op:=.call { callee:=.builtin .append,args:=#[s,y],argTypes:=#[T,T] },type:=ty,pos,after,guard:=none }) (hT:apB P T=some (e,sz,by_)) (hn:news=A++(ownB e x xs++B))
    (hs:rev r s=some (ownV x k)) (hy:rev r y=some (.slice q m c)) (hx:OwnOk sz x k xs) (hl:ys.length=m * sz) (hq:q=none→m=0∧c=0)
    (hc:∀ w,Mem W chg news w→∀ j u,ys[j]? = some u→∃ ad,q=some ad∧w.cell? (ad.add j)=some u) (h1:∀ u∈ys,u.oneCell'=true) (b1:k + m≤maxLen) (b2:(k + m) * by_≤140737488355328) (hd:Nat.ble (d + 1) n=true)
    (h:∀ z,OwnOk sz z (k + m) (xs++ys)→RunK n K ((d,ownV z (k + m))::r) ds W chg (A++(ownB e z (xs++ys)++B))):RunI P ops Q n i K r ds W chg news:=fun a w st=>by
  have hm:=st.mem;rw [hn] at hm;obtain ⟨z,w',hrun,hz,hm'⟩:=Az2 (P:=P) (tt:=ty) hT hm hx hl hq (hc w st.mem) h1 b1 b2;have st2:=st.put (Nat.le_of_ble_eq_true hd) (ownV z (k + m));have hK:=h z hz _ w' ⟨st2.size,st2.agree,st2.defers,hm'⟩;unfold wpOp;simp only [ho];refine .inl ?_;unfold Oper.wp;simp [execOp,resolve,invoke,builtin,st.agree.eval hs,st.agree.eval hy,hrun,Result.andThen]
  exact hK
theorem Bt8 {i:Nat} {K:Act→World→Prop} {q:Regs} {news':Blks} (hs:Sub q r) (hn:Pick news' news) (h:RunI P ops Q n i K q ds W chg news'):RunI P ops Q n i K r ds W chg news:=fun a w s=>h a w (s.pick hs hn)
/-! ### A slice of the function's own, handed on -/
def ownQ (x:Own):Option Addr:=x.map fun y=>⟨y.1,0,none⟩
def ownC (x:Own):Nat:=match x with | none=>0 | some y=>y.2.1
def ownK (x:Own):Nat:=match x with | none=>0 | some y=>y.1
theorem Ad5 {sz:Nat} {x:Own} {k:Nat} {xs:List Value} (h:OwnOk sz x k xs):ownV x k = .slice (ownQ x) k (ownC x):=by
  match x,h with
  | none,h=>rw [h.nil rfl];rfl
  | some _,_=>rfl
theorem Ah1 {α:Type} {f:α→List Value} {sz:Nat} (hf:∀ a,(f a).length=sz) (hz:0 < sz) {x:Own} {k:Nat} {l:List α} {e:TypeId} {w:World} (h:OwnOk sz x k (l.map f).flatten) (hm:∀ b o,(b,o)∈ownB e x (l.map f).flatten→w.heap[b]? = some o) :
    Sl w (ownQ x) (ownK x) 0 sz (l.map f):=by
  match x,h,hm with
  | none,h,_ =>
    have h1:=h.nil rfl;have h2:=h.len;rw [h1,AE8 hf,Nat.zero_mul] at h2
    have h3:l=[]:=by
      cases l with
      | nil=>rfl
      | cons a l=>simp only [List.length_cons,Nat.add_mul] at h2;omega
    subst h3;exact Sl.emp
  | some (b,c,r),_,hm=>exact Sl.rowsR (hm b _ (List.mem_singleton.2 rfl)) (fun x hx=>by obtain ⟨a,_,rfl⟩:=List.mem_map.1 hx;exact hf a)
end
end Go.Eng
/- The engine: more facts on one operation; ways that meet again behind a piece of code. No program is in sight. -/
namespace Go.Eng
open Go Go.RowKit

section
variable {P:Program} {r:Regs} {W:World} {chg news:Blks}
variable {ty:TypeId} {pos:String} {after:Array Edge} {dst:Option Tmp} {gd:Option (Nat×Bool)}
def andN (a b:Nat):Nat:=a ^^^ (a &&& b)
theorem BH9 (a b i:Nat):(andN a b).testBit i=(a.testBit i && !b.testBit i):=by
  unfold andN;rw [Nat.testBit_xor,Nat.testBit_and]
  cases a.testBit i <;> cases b.testBit i <;> rfl
theorem CG8 (a b:Nat):andN a b≤a:=by
  have:andN a b &&& a=andN a b:=by
    apply Nat.eq_of_testBit_eq
    intro i;rw [Nat.testBit_and,BH9]
    cases a.testBit i <;> cases b.testBit i <;> rfl
  rw [← this];exact Nat.and_le_right
theorem Val.andNot {x y:Operand} {T yt:TypeId} {k:IntKind} {a b:Nat} (hx:rev r x=some (.int k (a:Int))) (hy:rev r y=some (.int k (b:Int))) (ha':a < 2 ^ k.bits) (hb':b < 2 ^ k.bits) (hr:k.wrap ((andN a b:Nat):Int)=((andN a b:Nat):Int)) :
    Val P r W chg news { dst,op:=.binOp .andNot T x y yt,type:=ty,pos,after,guard:=gd } (.int k ((andN a b:Nat):Int)) :=
  ⟨fun ac w ha _=>by
    have e:((BitVec.ofInt k.bits (a:Int)) &&& ~~~(BitVec.ofInt k.bits (b:Int))).toNat=andN a b:=by
      apply Nat.eq_of_testBit_eq
      intro i;rw [BH9];simp only [BitVec.testBit_toNat,BitVec.getLsbD_and,BitVec.getLsbD_not,BitVec.ofInt_natCast,BitVec.getLsbD_ofNat]
      by_cases hi:i < k.bits
      · simp [hi]
      · have:a.testBit i=false:=Nat.testBit_lt_two_pow (Nat.lt_of_lt_of_le ha' (Nat.pow_le_pow_right (by omega) (by omega)))
        simp [this]
    simp only [execOp,ha.eval hx,ha.eval hy,eqGuard,binOp,Op.intBits,e,hr];simp [hr]⟩
end

section
variable {P:Program} {ops:Array Oper} {Q:Exit→Act→World→Prop} {n:Nat} {r:Regs} {ds:List Deferred} {W:World} {chg news:Blks}
def MeetP {X:Type} (n:Nat) (ds:List Deferred) (W:World) (R:X→Regs) (C Nw:X→Blks) (Inv:X→Prop) (a:Act) (w:World):Prop:=∃ x,Inv x∧St n (R x) ds W (C x) (Nw x) a w
theorem Mem.perm {W w:World} {chg news news':Blks} (h:Mem W chg news w) (hp:news.Perm news'):Mem W chg news' w :=
  { h with
    newd:=fun b o hb=>h.newd b o (hp.mem_iff.2 hb)
    once:=by
      have h1:=h.once;exact (List.Perm.nodup_iff ((hp.append_left chg).map _)).1 h1 }
theorem As3 {rest:List Oper} {d:Nat} {β:Type} {o:Oper} {f:FuncId} {args:Array Value} {v:β→Value} {nw:β→Blks} (hi:IsCall P r o f args) (hg:guardB ops r o.guard=some true) (hd:o.dst=some d) (hn:Nat.ble (d + 1) n=true)
    (hc:∀ w,Mem W chg news w→Calls P f args w (News v nw w)) (h:∀ b,RunL P ops Q n rest ((d,v b)::r) ds W chg (news++nw b)):RunL P ops Q n (o::rest) r ds W chg news :=
  RunL.call hg hd (fun a w s=>hi.runs a w s.agree) hc (fun a w e w' s hR=>by
    obtain ⟨b,rfl,hm⟩:=hR;have s2:=s.put (Nat.le_of_ble_eq_true hn) (v b);exact h b _ _ ⟨s2.size,s2.agree,s2.defers,(s.mem.trans hm).perm List.perm_append_comm⟩)
end
end Go.Eng
/- The engine: calls that turn a block, and hand back some value of which only something is known. No program is in sight. -/
namespace Go.Eng
open Go Go.RowKit

section
variable {P:Program} {ops:Array Oper} {Q:Exit→Act→World→Prop} {n:Nat} {r:Regs} {ds:List Deferred} {W:World} {chg news:Blks} {rest:List Oper} {d:Nat}
variable {K:Act→World→Prop} {i:Nat}
theorem An2 {X:Type} {id:Nat} {l:List Oper} {news0:Blks} {q:Regs} (k:Nat) (n0:Blks) (R:X→Regs→Regs) (C V T:X→Blks) (Inv:X→Prop) (hm:P.follows .mixedOrders=true) (hp:Pick news0 news) (_hs:Sub q r) (_hn:Pick n0 news)
    (h:RunA P l.toArray (SegQ Q (MeetP n ds W (fun x=>R x q) C (fun x=>V x++(n0++T x)) Inv)) k (fun c=>c=chg) news0 n l.toArray.size (Array.replicate l.toArray.size false) r ds W chg news)
    (h2:∀ x,Inv x→RunE Q n .normal (R x q) ds W (C x) (V x++(n0++T x))):RunC P Q n (.region id l.toArray true) r ds W chg news :=
  Az8 k hm hp h (fun a w hj=>by
    obtain ⟨x,hi,sx⟩:=hj;exact h2 x hi a w sx)
theorem Ad3 {X:Type} {R:X→Regs} {C Nw:X→Blks} {Inv:X→Prop} (x:X) (hi:Inv x) (hc:chg=C x) (hs:Sub (R x) r) (hn:Pick (Nw x) news):RunE (SegQ Q (MeetP n ds W R C Nw Inv)) n .normal r ds W chg news:=fun _ _ s =>
  ⟨x,hi,by subst hc;exact s.pick hs hn⟩
end
end Go.Eng
/- The engine: an element of an array value; a deferred call of a function value that holds a block. No program is in sight. -/
namespace Go.Eng
open Go Go.RowKit
section
variable {P:Program} {r:Regs} {W:World} {chg news:Blks}
variable {d:Nat} {ty:TypeId} {pos:String} {after:Array Edge} {dst:Option Tmp} {gd:Option (Nat×Bool)}
def arr1B (P:Program) (T:TypeId):Option Nat :=
  match P.underlying T with
  | some (.array n e)=>match P.underlying e with
    | some d=>if isAggD d then none else match P.info? e with
      | some j=>if j.size=1 then some n else none
      | none=>none
    | none=>none
  | _=>none
theorem Az3 {x y:Operand} {T:TypeId} {len:Nat} {cs:Array Value} {v:Value} {k:IntKind} {i:Int} (hx:rev r x=some (.agg cs)) (hy:rev r y=some (.int k i)) (hT:arr1B P T=some len) (h0:0≤i) (h1:i < len) (hv:cs[i.toNat]? = some v) :
    Val P r W chg news { dst,op:=.index T x y,type:=ty,pos,after,guard:=gd } v :=
  ⟨fun a w ha _=>by
    unfold arr1B at hT
    split at hT
    · rename_i n e hu
      split at hT
      · rename_i d hd
        split at hT
        · cases hT
        · rename_i hag
          split at hT
          · rename_i j hj
            split at hT
            · rename_i hs
              cases hT
              have hp:=Al1 (w:=w) hd (by simpa using hag) hv;simp [execOp,ha.eval hx,ha.eval hy,Instr.index,asIntOf,run_underlying hu,sizeOf,typeInfo,hj,hs,h0,h1,hp]
            · cases hT
          · cases hT
      · cases hT
    · cases hT⟩
theorem Ah9 {x:Operand} {T yt t:TypeId} {v:Value} {ms:Array (String×TypeId)} (hx:rev r x=some (.iface t v)) (hT:P.underlying T=some (.interface ms)) :
    Val P r W chg news { dst,op:=.binOp .eql T x (.const .nilIface) yt,type:=ty,pos,after,guard:=gd } (.bool false) :=
  ⟨fun a w ha _=>by
    have h:=AB4 (P:=P) (w:=w) (t:=t) (v:=v) hT;simp [execOp,ha.eval hx,BigFrame.eval_const,eqGuard,binOp,h]⟩
theorem Aj2 {x:Operand} {T yt:TypeId} {ms:Array (String×TypeId)} (hx:rev r x=some .nilIface) (hT:P.underlying T=some (.interface ms)) :
    Val P r W chg news { dst,op:=.binOp .eql T x (.const .nilIface) yt,type:=ty,pos,after,guard:=gd } (.bool true) :=
  ⟨fun a w ha _=>by
    have h:=run_equal_nil_nil (P:=P) (w:=w) hT;simp [execOp,ha.eval hx,BigFrame.eval_const,eqGuard,binOp,h]⟩
end
section
variable {P:Program} {ops:Array Oper} {Q:Exit→Act→World→Prop} {n:Nat} {r:Regs} {ds:List Deferred} {W:World} {chg news:Blks}
theorem BC0 {body:Code} (k:Nat) (h:RunC P (Exit.then (Code.rounds P body Q k) Q) n body r ds W chg news):RunC P Q n (.loop body) r ds W chg news:=fun a w s=>wp_loop_rounds (k + 1) (h a w s)
theorem AC3 {body:Code} {k:Nat} (h:RunC P (Exit.then (Code.rounds P body Q k) Q) n body r ds W chg news):RunE (Exit.then (Code.rounds P body Q (k + 1)) Q) n .normal r ds W chg news:=fun a w s=>h a w s
theorem Bn0 {fn:Func} {f:FuncId} {T:TypeId} {mis:Int→Value} {v v0:Value} {b:Nat} (hc:Catches P f T mis) (he:Enters P f) (hv:ResVs P r news fn v) (hv0:v=v0) {a:Act} {w:World} (s:St n r [{ target:=.fn (.func f) #[.pointer (some ⟨b,0,none⟩)],args:=#[] }] W [] news a w) :
    Leaves P fn a.tmps (Pure v0 W) a.defers .returning w:=by
  rw [s.defers];refine leaves_cons (f:=f) (args:=#[.pointer (some ⟨b,0,none⟩)]) (by simp) (by simp [invoke];exact he _ _) ?_;refine (hc.calm b w).mono ?_
  rintro e u w' ⟨⟨x,rfl⟩,rfl,hm⟩
  have hm2:=s.mem.pass hm;exact ⟨v,hv.run s.agree (fun _ _ h=>hm2.at (by simpa using h)),by rw [hv0],hm2.drop⟩
theorem Au6 {fn:Func} {f:FuncId} {T:TypeId} {mis:Int→Value} {v v0:Value} {b:Nat} (hc:Catches P f T mis) (he:Enters P f) (hv:ResVs P r news fn v) (hv0:v=v0) :
    RunE (bodyPostD P fn (Pure v0 W)) n .ret r [{ target:=.fn (.func f) #[.pointer (some ⟨b,0,none⟩)],args:=#[] }] W [] news:=fun _ _ s=>Bn0 hc he hv hv0 s
theorem Ba2 {fn:Func} {f:FuncId} {T:TypeId} {mis:Int→Value} {v v0 x:Value} {b:Nat} {k:Int} {news':Blks} (hc:Catches P f T mis) (he:Enters P f) (hu:Upd news b (.cells #[x] T (0,0)) (.cells #[.int .i64 k] T (0,0)) news') (hv:ResVs P r news' fn v) (hv0:v=v0) :
    RunE (bodyPostD P fn (Pure v0 W)) n (.panic [{ v:=mis k,recovered:=false }]) r [{ target:=.fn (.func f) #[.pointer (some ⟨b,0,none⟩)],args:=#[] }] W [] news:=fun a w s=>by
  show Leaves P fn a.tmps (Pure v0 W) a.defers _ w
  rw [s.defers];refine leaves_cons (f:=f) (args:=#[.pointer (some ⟨b,0,none⟩)]) (by simp) (by simp [invoke];exact he _ _) ?_;refine (hc.wild b k x w (s.mem.newd _ _ hu.mem).2).mono ?_
  rintro e u w' ⟨⟨y,rfl⟩,rfl,hm⟩
  have hm2:=s.mem.turn_new hu hm;exact ⟨v,hv.run s.agree (fun _ _ h=>hm2.at (by simpa using h)),by rw [hv0],hm2.drop⟩
end
end Go.Eng
/- The engine: a deferred function that calls another one besides recovering, where its caller ranges over a function; leaving such a caller. No program is in sight. -/
namespace Go.Eng
open Go Go.RowKit
section
variable {P:Program}
theorem Ag6 {f:FuncId} {fn:Func} {c:Code} {args:Array Value} {u:FrameMode} {w:World} {n:Nat} {R:Ending→FrameMode→World→Prop} (hf:P.funcs[f]? = some fn) (hb:fn.body=some c)
    (h:∀ (c₀:Frame) (cs:List Frame),c₀.mode=u→c.wpS P (bodyPostS P fn c₀ cs R) { tmps:=args++Array.replicate (fn.ntmps - args.size) undef,defers:=[] } (c₀::cs) w) :
    CallsDIn Fence.wide n P f args u w R:=by
  refine ⟨trivial,fun c₀ cs hu _=>?_⟩
  obtain ⟨e,a',cs',w',hq,harr⟩:=h c₀ cs hu { (default:Frame) with fn:=f,kind:=.deferred } [] rfl rfl
  have hen:Frame.enter P f args .deferred=({ (default:Frame) with fn:=f,kind:=.deferred }:Frame).at { tmps:=args++Array.replicate (fn.ntmps - args.size) undef,defers:=[] } [.code c]:=by
    simp [Frame.enter,Frame.at,hf,hb]
  rw [← hen] at harr
  match e,hq,harr with
  | .normal,⟨hd,u',hc,v,hr,hR⟩,harr =>
    subst hc;exact ⟨.returned v,u',w',_,hR,(comesIn_wide (P:=P) (e:=.returned v)).2 (Steps.trans harr (.one step_end)),rfl,rfl,rfl,hd,fn,hf,hr⟩
  | .ret,⟨hd,u',hc,v,hr,hR⟩,⟨_,hs⟩ =>
    subst hc;exact ⟨.returned v,u',w',_,hR,(comesIn_wide (P:=P) (e:=.returned v)).2 hs,rfl,rfl,rfl,hd,fn,hf,hr⟩
  | .panic chain,⟨hd,u',hc,hR⟩,⟨_,hs⟩ =>
    subst hc;exact ⟨.panicked chain,u',w',_,hR,(comesIn_wide (P:=P) (e:=.panicked chain)).2 hs,rfl,rfl,rfl,hd,fn,hf⟩
  | .outgrown,⟨u',hR⟩,harr =>
    exact ⟨.outgrown,u',w',{ (default:Frame) with fn:=f,kind:=.deferred },hR,(comesIn_wide (P:=P) (e:=.outgrown)).2 (harr.resolve_left (by simp)),rfl,rfl,trivial⟩
variable {W w:World} {chg news:Blks}
end
section
variable {P:Program} {ops:Array Oper} {Q:Exit→Act→World→Prop} {n d i:Nat} {r:Regs} {ds:List Deferred} {W:World} {chg news:Blks} {K:Act→World→Prop}
theorem AB0 {J:Act→World→Prop} {c:List PanicEntry} (h:RunE Q n (.panic c) r ds W chg news):RunE (SegQ Q J) n (.panic c) r ds W chg news:=h
theorem Ao6 {x:Operand} {fn:Fn} {cap:Array Value} {rest:List Oper} {ty:TypeId} {pos:String} {after:Array Edge} {ats:Array TypeId} (hx:rev r x=some (.func fn #[] cap))
    (h:RunL P ops Q n rest r ({ target:=.fn fn cap,args:=#[] }::ds) W chg news) :
    RunL P ops Q n ({ dst:=none,op:=.defer { callee:=.value x,args:=#[],argTypes:=ats },type:=ty,pos,after,guard:=none }::rest) r ds W chg news:=fun a w s =>
  wpList_plain rfl fun K hK=>by
    have h1:=s.agree.eval hx
    have e:(execOp a.eval { dst:=none,op:=.defer { callee:=.value x,args:=#[],argTypes:=ats },type:=ty,pos,after,guard:=none }).run P w = .ok (.defer { target:=.fn fn cap,args:=#[] }) w:=by
      simp [execOp,resolve,h1,Deferred.ofValue]
    unfold Oper.wp;rw [e,Oper.upon_defer];exact hK _ _ (h _ _ ⟨s.size,s.agree,by rw [← s.defers];rfl,s.mem⟩)
end
end Go.Eng
