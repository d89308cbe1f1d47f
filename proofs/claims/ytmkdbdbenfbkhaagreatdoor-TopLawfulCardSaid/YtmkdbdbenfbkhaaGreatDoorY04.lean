/- What is known of the library's variables when a law's call begins; a law's statement out of its walk, where its variables are listed. -/
import Derived.Test.YtmkdbdbenfbkhaaGreatDoorY03
import Derived.Test.YtmkdbdbenfbkhaaGreatDoorRows
import Derived.Lib.LaidTab
import Derived.Stop.LaidErr
import Derived.MakeChecks
import Derived.Shelf.Vars
import Derived.Handed
import Derived.HandedShaped
import Derived.Lay
import Derived.Test.YtmkdbdbenfbkhaaGreatDoorProg
set_option linter.unusedSimpArgs false
set_option linter.unusedVariables false
set_option linter.unusedSectionVars false
namespace Go.Eng
open Go Go.RowKit Go.ChangeShapes Go.WideShapes Go.ChangeAt
theorem AG4 {H:Type} {enc:TypeId×Value→H} {a:Assume} {C:Checked} {os:Os} {f:FuncId} {fn:Func} {s:ChangeSpec} {conds:List PathCond} {apart fresh handsOn again:Bool} {X:World→Array Value→Prop}
    (hX:∀ (w w':World) (args:Array Value),w.heap=w'.heap→X w args→X w' args)
    (own:ownKnob C.prog.godebug=none) (started:os.Started) (noInit:C.prog.inits.idxOf? f=none) (hfn:C.prog.funcs[f]? = some fn)
    (witness:∃ (w:World) (tape:Tape) (i:Input),w.os=os∧(w.forCall tape i).Shaped C.prog∧i.vars=[]∧Input.okWide C.prog (w.forCall tape i) .any w.heap.size f i ∧
      ((s.pre enc C.prog fn conds apart (w.forCall tape i).memory i.args∧X (w.forCall tape i).memory i.args)∧sizedMet enc C.prog fn (OpenSpec.ofChange s) apart (w.forCall tape i).memory i.args)∧a.holds C.prog (lone (Frame.enter C.prog f i.args .normal) [] (w.forCall tape i)))
    (contract:∀ (W:World) (base:Nat) (args:Array Value) (ds gs:List (DataW H)) (before:List MemPlace),
      (∀ (j:Nat) t v,fn.params[j]? = some t→args[j]? = some v→Value.okWide C.prog W .any base t v) →
      DataW.Whole enc C.prog fn.params.toList s.vars apart W args.toList ds gs before→W.ShapedOpen C.prog→X W args →
      Calls C.prog f args W fun e W'=>∃ v,e = .returned v∧s.post enc C.prog fn apart fresh handsOn again W args v W') :
    ReturnsInHanded a C os f .any (fun w args=>(s.pre enc C.prog fn conds apart w args∧X w args)∧sizedMet enc C.prog fn (OpenSpec.ofChange s) apart w args) (s.post enc C.prog fn apart fresh handsOn again):=by
  refine returnsInHanded_of_calls own started noInit witness ?_;intro w tape i _ hsh _ hok hpre hholds;obtain ⟨_,_,_,fn',hfn',_,_,_,_,hval⟩:=hok;have e:fn'=fn:=Option.some.inj (hfn'.symm.trans hfn);subst e;obtain ⟨⟨⟨ds,gs,before,hw,hc⟩,hx⟩,hz⟩:=hpre;have hw':=DataW.Whole.of_heap (w':=w.forCall tape i) (by rfl) hw;refine (contract (w.forCall tape i) w.heap.size i.args ds gs before hval hw' hsh (hX _ _ _ (by rfl) hx)).mono fun e W' ⟨v,he,hp⟩=>?_
  subst he;exact ChangeSpec.post_blind hp
theorem Bd1 {H:Type} {enc:TypeId×Value→H} {P:Program} {f:Func} {s:ChangeSpec} {n:Nat} {shs:List Sh} {tb:TypeId} {F:FuncId} (hl:laidOutB P=true) (hsh:f.params.toList.mapM (shapeB P n)=some shs)
    (hp:f.params.toList.all (fun t=>P.readableRec t && decide (t < P.types.size))=true) (hr:f.resultTypes = #[tb]) (hb:P.underlying tb=some .bool) (hvars:s.vars=[])
    (hfn:∀ ds:List (DataW H),ds.length=f.params.toList.length→s.fn H (ds++[])={ results:=[.lit (.bool true)],args:=ds })
    {W:World} (walk:∀ vs:List Value,RdAll W shs vs→Calls P F vs.toArray W (Pure (.bool true) W)) {base:Nat} {args:Array Value} {ds gs:List (DataW H)} {before:List MemPlace} (hval:∀ (j:Nat) t v,f.params[j]? = some t→args[j]? = some v→Value.okWide P W .any base t v)
    (hW:DataW.Whole enc P f.params.toList s.vars false W args.toList ds gs before) :
    Calls P F args W fun e W'=>∃ v,e = .returned v∧s.post enc P f false true false false W args v W':=by
  have hW':=hW;obtain ⟨p,q,hA,hV,rfl,hfz,hnd⟩:=hW;rw [hvars] at hV;obtain ⟨rfl,rfl⟩:=trodVars_none hV;have hrd:RdAll W shs args.toList:=BE8 hsh (fun j t v hj hv=>hval j t v (by simpa using hj) (by simpa using hv)) hA
  have hlen:ds.length=f.params.toList.length:=by
    clear hW' hval hrd hfn hp hsh hfz hnd hV
    generalize f.params.toList=ts at hA
    generalize args.toList=vs at hA
    induction ts generalizing vs ds p with
    | nil=>obtain ⟨_,rfl,_⟩:=trodAll_nil hA;rfl
    | cons t ts ih =>
      obtain ⟨v,vs',d,ds',p,q,rfl,rfl,rfl,h0,hr⟩:=trodAll_cons hA;simp [ih _ _ hr]
  refine (walk args.toList hrd).mono fun e W' ⟨he,hm⟩=>?_
  subst he;have bel:=hm.below;refine ⟨_,rfl,ds,[],p++[],[],p,[],hW',?_,?_,?_,bel.frame _,fun h=>by cases h⟩
  · rw [hfn ds hlen,hr]
    exact trodAll_mk1 (shut_bool hb _)
  · rw [hfn ds hlen]
    exact AC9 hl bel hp hA
  · rw [hvars,hfn ds hlen]
    rfl
theorem AY0 {P:Program} {n nm:String} {d:DataW Unit} {r:List (String×DataW Unit)} {W:World} {g:Nat} {ti:TypeId} {ms:Array (String×TypeId)}
    (h:laidMet P ((n,.iface nm d)::r) W) (hg:P.globalNamed n=some g) (ht:(P.globals[g]?).map (·.type)=some ti) (hi:P.underlying ti=some (.interface ms)):∃ te pe,W.cell? ⟨g,0,none⟩=some (.iface te pe):=by
  obtain ⟨ps,⟨g0,t0,cs0,f0,p0,q0,hg0,ht0,hv0,hd0,_,e0⟩,_,hrows⟩:=h;obtain rfl:=Option.some.inj (hg.symm.trans hg0);obtain rfl:=Option.some.inj (ht.symm.trans ht0);obtain ⟨f',u,v,hcs,_,_⟩:=iface_of_trod hi hd0;have h1:=World.var?_cell hg0 hv0 0
  have e:cs0 = #[.iface u v]:=by
    obtain ⟨l⟩:=cs0;simp only at hcs
    rw [hcs]
  rw [e] at h1;exact ⟨u,v,by simpa using h1⟩
end Go.Eng
namespace Go.Proofs.YtmkdbdbenfbkhaaGreatDoor
open Go Go.Eng Go.Bk Go.RowKit

abbrev laidL:List (String×DataW Unit):=[("math/bits.deBruijn32tab",Rows.laid_math_bits_deBruijn32tab),("math/bits.deBruijn64tab",Rows.laid_math_bits_deBruijn64tab),("internal/strconv.uint64pow10",Rows.laid_internal_strconv_uint64pow10),("unicode/utf8.acceptRanges",Rows.laid_unicode_utf8_acceptRanges),("strconv.ErrRange",Rows.laid_strconv_ErrRange),("strconv.ErrSyntax",Rows.laid_strconv_ErrSyntax),("unicode/utf8.first",Rows.laid_unicode_utf8_first)]
theorem CT3:((begin Tryz.prog (fun _ _=>0) default).world.heap[0]?).bind Obj.row? = some (#[.int .i64 0],3):=by kernel_rfl
theorem CR9 {W:World} (hsh:W.ShapedOpen Tryz.prog) (hL:laidMetH Tryz.prog laidL W):Lw Tryz.prog W:=by
  rw [MakeChecks.laidMetH_plain _ _ _ (by kernel_rfl)] at hL;have h3:=hL.tail.tail;have h5:=h3.tail.tail;obtain ⟨te,pe,h1⟩:=AY0 h5 (g:=3) (by kernel_rfl) (by kernel_rfl) Tryz.underlying177;obtain ⟨te2,pe2,h2⟩:=AY0 h5.tail (g:=2) (by kernel_rfl) (by kernel_rfl) Tryz.underlying177
  exact ⟨cell_of_shapedOpen_int hsh (by decide) CT3 rfl (by kernel_rfl) (by kernel_rfl) Tryz.underlying3,
    Lib.tabIs_of_head (g:=1) (t:=359) (n:=20) (e:=322) (by kernel_rfl) (by kernel_rfl) (by kernel_rfl) (by kernel_rfl) (by kernel_rfl) (by kernel_rfl) h3,
    ⟨_,h2,.inr ⟨_,_,rfl⟩⟩,⟨_,h1,.inr ⟨_,_,rfl⟩⟩⟩
theorem BW3 (os:Os):(World.holding Tryz.prog os ⟨#[],#[],[]⟩).layFits Tryz.prog laidL []=true:=by kernel_rfl
theorem Bx2 (os:Os):(World.holding Tryz.prog os ⟨#[],#[],[]⟩).layIfaces Tryz.prog laidL (World.laidAll Tryz.prog os laidL)=true:=by kernel_rfl
end Go.Proofs.YtmkdbdbenfbkhaaGreatDoor
namespace Go.Bk
open Go Go.Eng Go.RowKit
def rloanX (c:Cb) (l:Ln):Bool:=if l.kind=2 then within l.slot 0 (c.slots - 1) && (decide (l.card = -1) || within l.card 0 ((c.homes.length:Int) - 1)) else (decide (l.kind=0) || decide (l.kind=1)) && within l.card 0 ((c.homes.length:Int) - 1) && within l.person 0 7
def oneX (l:List Int) (n:Int) (i:Nat):Bool:=within (l.getD i 0) 0 (n - 1) && (List.range i).all fun j=>!decide (l.getD j 0=l.getD i 0)
def rhomesX (l:List Int) (n:Int) (k:Nat):Bool:=(List.range k).all (oneX l n)
def rcabX (c:Cb):Bool:=within c.slots 1 6 && decide (c.homes.length≤5) && within c.wrong 0 12 && decide (c.loans.length≤12) && rhomesX c.homes c.slots c.homes.length && c.loans.all (rloanX c)
def plainL (l:Ln):Bool:=!((decide (l.kind=2) && !decide (l.person=0)) || (!decide (l.kind=2) && !decide (l.slot=0)))
theorem Ck8 {p:Nat→Bool} {n k:Nat} (hk:k < n) (h:p k=false):(List.range n).all p=false:=by
  rw [List.all_eq_false];exact ⟨k,List.mem_range.2 hk,by simp [h]⟩
theorem BW9 (l:List Int) (i:Nat) (hi:i < l.length):decide (idxX l (l.getD i 0)=(i:Int))=(List.range i).all fun j=>!decide (l.getD j 0=l.getD i 0):=by
  have e:l.getD i 0=l[i]:=by rw [List.getD_eq_getElem?_getD,List.getElem?_eq_getElem hi];rfl
  have ha:l.any (fun y=>decide (l.getD i 0=y))=true:=List.any_eq_true.2 ⟨l[i],List.getElem_mem hi,by rw [e];simp⟩;unfold idxX;rw [if_pos ha]
  by_cases h:∃ j,j < i∧l.getD j 0=l.getD i 0
  · obtain ⟨j,hj,hjx⟩:=h
    rw [Ck8 hj (by rw [decide_eq_true hjx];rfl)];refine decide_eq_false fun h9=>?_
    have h8:j < l.findIdx (fun y=>decide (l.getD i 0=y)):=by omega
    have h7:=List.not_of_lt_findIdx h8;have e2:l.getD j 0=l[j]:=by rw [List.getD_eq_getElem?_getD,List.getElem?_eq_getElem (by omega)];rfl
    rw [e2] at hjx;simp [hjx] at h7
  · have h2:∀ j,j < i→l.getD j 0 ≠ l.getD i 0:=fun j hj h3=>h ⟨j,hj,h3⟩
    rw [List.all_eq_true.2 (fun j hj=>by rw [decide_eq_false (h2 j (List.mem_range.1 hj))];rfl)];refine decide_eq_true ?_
    congr 1
    refine (List.findIdx_eq hi).2 ⟨by rw [e];simp,fun j hj=>?_⟩
    have e2:l.getD j 0=l[j]:=by rw [List.getD_eq_getElem?_getD,List.getElem?_eq_getElem (by omega)];rfl
    refine decide_eq_false fun h9=>h2 j hj ?_
    rw [e2,h9]
theorem BX1 (c:Cb):homesX c c.homes.length=rhomesX c.homes c.slots c.homes.length:=by
  unfold homesX rhomesX;rw [Bool.eq_iff_iff,List.all_eq_true,List.all_eq_true];refine ⟨fun h i hi=>?_,fun h i hi=>?_⟩
  · have h1:=h i hi
    rw [BW9 _ _ (List.mem_range.1 hi)] at h1;exact h1
  · have h1:=h i hi
    unfold oneX at h1;rw [← BW9 _ _ (List.mem_range.1 hi)] at h1;exact h1
theorem CK2 (c:Cb) (l:Ln):loanX c l=(rloanX c l && plainL l):=by
  unfold loanX rloanX plainL
  by_cases h2:l.kind=2
  · have h01:¬ (l.kind=0∨l.kind=1):=by omega
    rw [if_neg h01,if_pos h2,if_pos h2];simp only [h2,decide_true,Bool.true_and,Bool.not_true,Bool.false_and,Bool.or_false,Bool.not_not];rw [Bool.or_comm (within l.card 0 _)]
    cases within l.slot 0 (c.slots - 1) <;> simp
  · rw [if_neg h2,if_neg h2]
    by_cases h01:l.kind=0∨l.kind=1
    · rw [if_pos h01]
      have e:(decide (l.kind=0) || decide (l.kind=1))=true:=by simpa using h01
      rw [e];simp [h2]
    · rw [if_neg h01]
      have e:(decide (l.kind=0) || decide (l.kind=1))=false:=by simpa using h01
      rw [e];simp
theorem CS4 (c:Cb):cabX c=(rcabX c && c.loans.all plainL):=by
  unfold cabX rcabX;have e:(!c.loans.any fun l=>!loanX c l)=c.loans.all (loanX c):=by rw [List.any_eq_not_all_not];simp
  have e2:∀ l:List Ln,l.all (loanX c)=(l.all (rloanX c) && l.all plainL):=fun l=>by
    induction l with
    | nil=>rfl
    | cons a l ih =>
      simp only [List.all_cons,ih,CK2]
      cases rloanX c a <;> cases plainL a <;> simp
  rw [BX1,e,e2,← Bool.and_assoc]
end Go.Bk
namespace Go.Proofs.YtmkdbdbenfbkhaaGreatDoor
open Go Go.Eng Go.Bk Go.RowKit

theorem Bk1 (c:CbA) (hs:CbS c) (W:World) (hC:CbOk W c):Calls Tryz.prog 15 #[c.v] W (Pure (.bool (c.loans.l.all plainL)) W):=by
  obtain ⟨s1,s2⟩:=hs;refine Aa2 Tryz.func15 rfl rfl ?_;refine st ?_;refine zn (New.box rfl) (fun b1=>?_)
  refine Ad6 (c.loans.l.length) (fun k q=>(3,.int .i64 (k:Int))::q) (fun _=>_) (fun _=>[]) (fun k=>(c.loans.l.take k).all plainL=true) (by simp) rfl (zE 3 rfl rfl (zS 1 rfl (Sub.nil _))) (.cons .here rfl .nil) ?_;intro k kN kI;refine su ?_;refine cn rfl ?_ ?_
  ·intro c0'
   have hk:k < c.loans.l.length:=by omega
   obtain ⟨y,hy⟩:∃ y,c.loans.l[k]=y:=⟨_,rfl⟩;refine su ?_;refine lv (Aa6 rfl rfl AT7 (by omega) (by omega) (Sl.ptrM hC.loans hk)) ?_;refine lv (Ab2 rfl (fun w hm=>Sl.loadX hC.loans (by decide) hm (by simp) As9 hk hy)) ?_;refine zn (New.alloc Ba8) (fun b4=>?_)
   refine Ab4 (Sto.store rfl rfl .here As9 rfl rfl) rfl rfl ?_;refine su ?_
   refine Ab3 (dj:=20) (dp:=24) 4 rfl (fun g20=>by
     have g20':=g20;try simp only [nH] at g20'
     refine lv (Val.fieldAddr rfl AE6) ?_;refine Aa0 (Aa1 rfl (.head _) Af4 rfl) rfl rfl rfl ?_;refine sv ?_;exact zs g20
   ) (fun g20=>by
     have g20':=g20;try simp only [nH] at g20'
     iterate 3 refine Ac9 rfl rfl rfl ?_
     refine sv ?_;exact zs g20
   ) ?_
   refine st ?_
   refine Ae1 (dj:=25) (dp:=34) 9 rfl (fun g25=>by
     have g25':=g25;try simp only [nH] at g25'
     refine su ?_
     refine Ab3 (dj:=29) (dp:=33) 4 rfl (fun g29=>by
       have g29':=g29;try simp only [nH] at g29'
       refine lv (Val.fieldAddr rfl AE5) ?_;refine Aa0 (Aa1 rfl (.head _) Af4 rfl) rfl rfl rfl ?_;refine sv ?_;exact zs g29
     ) (fun g29=>by
       have g29':=g29;try simp only [nH] at g29'
       iterate 3 refine Ac9 rfl rfl rfl ?_
       refine sv ?_;exact zs g29
     ) ?_
     refine sv ?_;exact zs g25
   ) (fun g25=>by
     have g25':=g25;try simp only [nH] at g25'
     iterate 8 refine Ac9 rfl rfl rfl ?_
     refine sv ?_;exact zs g25
   ) ?_
   refine st ?_;refine cn rfl ?_ ?_
   ·intro c1'
    refine su ?_;exact Aa4 (.r1 rfl (.tmp rfl)) (by rw [CO9 hk hy (by unfold plainL;simp;omega)])
   intro c1';refine st ?_;refine lv (Val.add rfl rfl (IntWalk.i64_in _ ⟨by omega,by omega⟩)) ?_;exact Ad2 (by omega) (Cj8 hk hy kI (by unfold plainL;simp_all)) rfl (zE 3 rfl rfl (zS 1 rfl (Sub.nil _))) (.cons (.there .here) rfl .nil)
  intro c0';obtain rfl:k=c.loans.l.length:=by omega
  rw [List.take_length] at kI;refine RunC.exit ?_;refine su ?_;refine Ab0 ?_;refine su ?_;exact Aa4 (.r1 rfl (.tmp rfl)) (by rw [kI])
end Go.Proofs.YtmkdbdbenfbkhaaGreatDoor
namespace Go.Le
open Go Go.Eng Go.Bk
abbrev Rc:=List (List Int×Int)
def aIdx:Rc→List Int→Option (Nat×Int)
  | [],_=>none
  | x::l,a=>if x.1=a then some (0,x.2) else (aIdx l a).map fun p=>(p.1 + 1,p.2)
def aFind (l:Rc) (a:List Int):Option Int:=(aIdx l a).map (·.2)
def aSet:Rc→List Int→Int→Rc
  | [],a,v=>[(a,v)]
  | x::l,a,v=>if x.1=a then (a,v)::l else x::aSet l a v
def rv (l:Rc):List (List Int×Value):=l.map fun p=>(p.1,.int .i64 p.2)
theorem Ct1 (a:List Int):∀ l:Rc,kIdx (rv l) a=(aIdx l a).map fun p=>(p.1,.int .i64 p.2)
  | []=>rfl
  | x::l=>by
    show (if x.1=a then _ else _)=_
    unfold aIdx
    by_cases h:x.1=a
    · rw [if_pos h,if_pos h];rfl
    · rw [if_neg h,if_neg h,show kIdx (List.map (fun p:List Int×Int=>(p.1,Value.int .i64 p.2)) l) a=_ from Ct1 a l]
      cases aIdx l a <;> rfl
theorem BS7 (l:Rc) (a:List Int):kFind (rv l) a=(aFind l a).map (Value.int .i64):=by
  unfold kFind aFind;rw [Ct1]
  cases aIdx l a <;> rfl
theorem Ct0 (a:List Int) (v:Int):∀ l:Rc,kSet (rv l) a (.int .i64 v)=rv (aSet l a v)
  | []=>rfl
  | x::l=>by
    show (if x.1=a then _ else _)=_
    unfold aSet
    by_cases h:x.1=a
    · rw [if_pos h,if_pos h];rfl
    · rw [if_neg h,if_neg h,show kSet (List.map (fun p:List Int×Int=>(p.1,Value.int .i64 p.2)) l) a (.int .i64 v)=_ from Ct0 a v l];rfl
theorem BE1 (l:Rc):(rv l).length=l.length:=by simp [rv]
theorem Cg3 (a:List Int):aFind [] a=none:=rfl
theorem Ar1 (x:List Int×Int) (l:Rc) (a:List Int):aFind (x::l) a=if x.1=a then some x.2 else aFind l a:=by
  unfold aFind
  show Option.map _ (if x.1=a then _ else _)=_
  by_cases h:x.1=a
  · rw [if_pos h,if_pos h];rfl
  · rw [if_neg h,if_neg h]
    cases aIdx l a <;> rfl
theorem AR9 (a b:List Int) (v:Int):∀ l:Rc,aFind (aSet l a v) b=if a=b then some v else aFind l b
  | []=>by
    show aFind [(a,v)] b=_
    rw [Ar1]
  | x::l=>by
    unfold aSet
    by_cases h:x.1=a
    · rw [if_pos h,Ar1,Ar1,h]
      by_cases h2:a=b
      · simp [h2]
      · simp [h2]
    · rw [if_neg h,Ar1,Ar1,AR9 a b v l]
      by_cases h2:x.1=b
      · have:a ≠ b:=fun e=>h (by rw [h2,e])
        simp [h2,this]
      · simp [h2]
theorem Bs4 (a:List Int) (v:Int):∀ l:Rc,(aSet l a v).map (·.1)=if a∈l.map (·.1) then l.map (·.1) else l.map (·.1)++[a]
  | []=>by simp [aSet]
  | x::l=>by
    unfold aSet
    by_cases h:x.1=a
    · simp [h]
    · have h2:¬ a=x.1:=fun e=>h e.symm
      rw [if_neg h,List.map_cons,Bs4 a v l]
      by_cases h3:a∈l.map (·.1)
      · rw [if_pos h3,if_pos (by simp only [List.map_cons,List.mem_cons];exact .inr h3)];rfl
      · rw [if_neg h3,if_neg (by simp only [List.map_cons,List.mem_cons];exact fun h=>h.elim h2 h3)];rfl
def Nk (l:Rc):Prop:=(l.map (·.1)).Nodup
theorem Nk.set {l:Rc} (h:Nk l) (a:List Int) (v:Int):Nk (aSet l a v):=by
  unfold Nk at *;rw [Bs4]
  split
  · exact h
  · rename_i ha
    rw [List.nodup_append];refine ⟨h,by simp,fun x hx y hy=>?_⟩
    rw [List.mem_singleton.1 hy]
    rintro rfl
    exact ha hx
theorem AS0 {k:List Int} {v:Int}:∀ {l:Rc},Nk l→((k,v)∈l ↔ aFind l k=some v)
  | [],_=>by simp [Cg3]
  | x::l,h=>by
    have h':x.1 ∉ l.map (·.1)∧Nk l:=List.nodup_cons.1 (show (x.1::l.map (·.1)).Nodup from h);rw [Ar1,List.mem_cons]
    by_cases hx:x.1=k
    · rw [if_pos hx]
      constructor
      · rintro (h1 | h1)
        · rw [← h1]
        · exact absurd (List.mem_map.2 ⟨(k,v),h1,rfl⟩) (hx ▸ h'.1)
      · intro h1
        cases h1
        exact .inl (by rw [← hx])
    · rw [if_neg hx,← AS0 h'.2]
      constructor
      · rintro (h1 | h1)
        · exact absurd (by rw [← h1]) hx
        · exact h1
      · exact .inr
theorem AI2 {α β:Type} {f:α→β}:∀ {l:List α},(l.map f).Nodup→l.Nodup
  | [],_=>List.nodup_nil
  | x::l,h=>by
    rw [List.map_cons,List.nodup_cons] at h;exact List.nodup_cons.2 ⟨fun hx=>h.1 (List.mem_map.2 ⟨x,hx,rfl⟩),AI2 h.2⟩
theorem Nk.nodup {l:Rc} (h:Nk l):l.Nodup:=AI2 h
theorem Bl4 {l l':Rc} (h:Nk l) (h':Nk l') (he:∀ k,aFind l k=aFind l' k):l.Perm l' :=
  (List.perm_ext_iff_of_nodup h.nodup h'.nodup).2 fun ⟨k,v⟩=>by rw [AS0 h,AS0 h',he]
theorem Nk.perm {l l':Rc} (h:Nk l) (hp:l.Perm l'):Nk l':=(hp.map _).nodup_iff.1 h
/-! ## A state more -/
def addX (l:Rc) (s:List Int) (m:Int):Rc:=match aFind l s with
  | none=>aSet l s m
  | some n=>if m < n then aSet l s m else l
def addF (F:List Int→Option Int) (s:List Int) (m:Int) (k:List Int):Option Int :=
  if s=k then (match F s with
    | none=>some m
    | some n=>some (if m < n then m else n)) else F k
theorem Cq6 (l:Rc) (s:List Int) (m:Int) (k:List Int):aFind (addX l s m) k=addF (aFind l) s m k:=by
  unfold addX addF
  cases h:aFind l s with
  | none=>simp only [AR9]
  | some n =>
    by_cases hm:m < n
    · simp only [if_pos hm,AR9]
    · simp only [if_neg hm]
      by_cases hk:s=k
      · rw [if_pos hk,← hk,h]
      · rw [if_neg hk]
theorem Nk.add {l:Rc} (h:Nk l) (s:List Int) (m:Int):Nk (addX l s m):=by
  unfold addX
  split
  · exact h.set s m
  · split
    · exact h.set s m
    · exact h
theorem Cg2 (F:List Int→Option Int) (a:List Int×Int) (b:List Int×Int):addF (addF F a.1 a.2) b.1 b.2=addF (addF F b.1 b.2) a.1 a.2:=by
  obtain ⟨s,m⟩:=a;obtain ⟨t,n⟩:=b
  funext k
  unfold addF
  by_cases h1:s=t
  · subst h1
    by_cases h2:s=k
    · subst h2
      simp only [if_true]
      cases F s with
      | none=>simp only [Option.some.injEq];omega
      | some q=>simp only [Option.some.injEq];split <;> split <;> (try split) <;> first | omega | rfl
    · simp only [if_neg h2]
  · have h1':¬ t=s:=fun e=>h1 e.symm
    by_cases h2:s=k
    · subst h2
      simp [h1,h1']
    · by_cases h3:t=k
      · subst h3;simp [h1,h1']
      · simp [h2,h3]
def addAll (l:Rc) (ads:List (List Int×Int)):Rc:=ads.foldl (fun l a=>addX l a.1 a.2) l
def addAllF (F:List Int→Option Int) (ads:List (List Int×Int)):List Int→Option Int:=ads.foldl (fun F a=>addF F a.1 a.2) F
theorem AC1:∀ (ads:List (List Int×Int)) (l:Rc) (F:List Int→Option Int),(∀ k,aFind l k=F k)→∀ k,aFind (addAll l ads) k=addAllF F ads k
  | [],_,_,h,k=>h k
  | a::ads,l,F,h,k=>by
    refine AC1 ads (addX l a.1 a.2) (addF F a.1 a.2) (fun k=>?_) k
    rw [Cq6,show aFind l=F from funext h]
theorem Nk.addAll {l:Rc} (h:Nk l) (ads:List (List Int×Int)):Nk (addAll l ads):=by
  induction ads generalizing l with
  | nil=>exact h
  | cons a ads ih=>exact ih (h.add a.1 a.2)
theorem Bs3 {ads bs:List (List Int×Int)} (h:ads.Perm bs) (F:List Int→Option Int):addAllF F ads=addAllF F bs :=
  h.foldl_eq' (fun x _ y _ z=>Cg2 z x y) F
theorem BB0 {ads bs:List (List Int×Int)} (h:ads.Perm bs):(addAll [] ads).Perm (addAll [] bs):=by
  have h0:Nk []:=by simp [Nk]
  refine Bl4 (h0.addAll ads) (h0.addAll bs) (fun k=>?_)
  rw [AC1 ads [] (fun _=>none) (fun _=>rfl),AC1 bs [] (fun _=>none) (fun _=>rfl),Bs3 h]
theorem AH0 (l:Rc) (ads bs:List (List Int×Int)):addAll l (ads++bs)=addAll (addAll l ads) bs:=by simp [addAll]
/-! ## What follows a state -/
def liesX (n:Nat) (s:List Int) (slot:Int):Int:=idxP (fun y=>decide (y=slot)) (s.take n)
def crd (l:Ln):Nat:=l.card.toNat
def backE (c:Cb) (s:List Int) (l:Ln) (j:Nat):List Int×Bool:=(s.set (crd l) (j:Int),!decide ((j:Int)=c.homes.getD (crd l) 0))
def backL (c:Cb) (s:List Int) (l:Ln) (k:Nat):List (List Int×Bool):=((List.range k).filter fun (j:Nat)=>decide (liesX c.homes.length s (j:Int) = -1)).map (backE c s l)
def thenX (c:Cb) (s:List Int) (l:Ln):List (List Int×Bool) :=
  if l.kind=0 then (if s.getD (crd l) 0 = -1 then [] else [(s.set (crd l) (-1),false)])
  else if l.kind=1 then (if s.getD (crd l) 0 = -1 then backL c s l c.slots.toNat else [])
  else if liesX c.homes.length s l.slot=l.card then [(s,false)] else []
theorem Cf8 (c:Cb) (s:List Int) (l:Ln) (k:Nat):backL c s l (k + 1)=backL c s l k++(if liesX c.homes.length s (k:Int) = -1 then [backE c s l k] else []):=by
  unfold backL;rw [List.range_succ,List.filter_append,List.map_append]
  congr 1
  by_cases h:liesX c.homes.length s (k:Int) = -1 <;> simp [h]
theorem Cf9 (c:Cb) (s:List Int) (l:Ln) (k:Nat):(backL c s l k).length≤k:=by
  unfold backL;rw [List.length_map];exact Nat.le_trans (List.length_filter_le _ _) (by simp)
abbrev Rule:=Nat→Ln→Bool→Bool
def b2i (b:Bool):Int:=if b then 1 else 0
def add1 (wrong:Int) (ok:Rule) (i:Nat) (l:Ln) (n:Int) (t:List Int×Bool):List (List Int×Int) :=
  if n + b2i t.2≤wrong∧ok i l t.2=true then [(t.1,n + b2i t.2)] else []
def addsP (c:Cb) (wrong:Int) (ok:Rule) (i:Nat) (l:Ln) (p:List Int×Int):List (List Int×Int):=(thenX c p.1 l).flatMap (add1 wrong ok i l p.2)
def adds (c:Cb) (wrong:Int) (ok:Rule) (i:Nat) (l:Ln) (now:Rc):List (List Int×Int):=now.flatMap (addsP c wrong ok i l)
def stepX (c:Cb) (wrong:Int) (ok:Rule) (i:Nat) (l:Ln) (now:Rc):Rc:=addAll [] (adds c wrong ok i l now)
def firstX (c:Cb):List Int:=c.homes++List.replicate (5 - c.homes.length) 0
def zLn:Ln:=⟨0,0,0,0⟩
def playX (c:Cb) (wrong:Int) (ok:Rule):Nat→Rc
  | 0=>[(firstX c,0)]
  | k + 1=>stepX c wrong ok k (c.loans.getD k zLn) (playX c wrong ok k)
theorem Bj3 (c:Cb) (wrong:Int) (ok:Rule) (i:Nat) (l:Ln) {a b:Rc} (h:a.Perm b):(stepX c wrong ok i l a).Perm (stepX c wrong ok i l b) :=
  BB0 (h.flatMap_right _)
/-! ## All states are good -/
structure Gd (c:Cb) (p:List Int×Int):Prop where
  len:p.1.length=5
  lo:∀ x∈p.1.take c.homes.length,-1≤x∧x≤c.slots - 1
  ge:0≤p.2
  le:p.2≤12
theorem BF8 {l:Rc} {s:List Int} {m:Int} {p:List Int×Int} (h:p∈addX l s m):p∈l∨p=(s,m):=by
  have hset:∀ {l:Rc},p∈aSet l s m→p∈l∨p=(s,m):=by
    intro l
    induction l with
    | nil=>intro h;exact .inr (List.mem_singleton.1 h)
    | cons x l ih =>
      intro h;unfold aSet at h
      split at h
      · rcases List.mem_cons.1 h with h | h
        · exact .inr h
        · exact .inl (List.mem_cons_of_mem _ h)
      · rcases List.mem_cons.1 h with h | h
        · exact .inl (by rw [h];exact List.mem_cons_self ..)
        · exact (ih h).imp_left (List.mem_cons_of_mem _)
  unfold addX at h
  split at h
  · exact hset h
  · split at h
    · exact hset h
    · exact .inl h
theorem AG3 {p:List Int×Int}:∀ {ads:List (List Int×Int)} {l:Rc},p∈addAll l ads→p∈l∨p∈ads
  | [],_,h=>.inl h
  | a::ads,l,h=>by
    rcases AG3 (ads:=ads) (l:=addX l a.1 a.2) h with h | h
    · rcases BF8 h with h | h
      · exact .inl h
      · exact .inr (by rw [h];exact List.mem_cons_self ..)
    · exact .inr (List.mem_cons_of_mem _ h)
theorem AH8 {s:List Int} {n i:Nat} {v x:Int} (h:x∈(s.set i v).take n):x∈s.take n∨x=v:=by
  rw [List.take_set] at h;exact (List.mem_or_eq_of_mem_set h)
theorem BR2 {c:Cb} {p:List Int×Int} (h:Gd c p) (hs:1≤c.slots) (l:Ln):∀ t∈thenX c p.1 l,t.1.length=5∧∀ x∈t.1.take c.homes.length,-1≤x∧x≤c.slots - 1:=by
  intro t ht;unfold thenX at ht
  split at ht
  · split at ht
    · cases ht
    · rw [List.mem_singleton.1 ht]
      refine ⟨by simp [h.len],fun x hx=>?_⟩
      rcases AH8 hx with hx | rfl
      · exact h.lo x hx
      · omega
  · split at ht
    · split at ht
      · unfold backL at ht
        obtain ⟨j,hj,rfl⟩:=List.mem_map.1 ht;have hj2:=List.mem_range.1 (List.mem_filter.1 hj).1;refine ⟨by simp [backE,h.len],fun x hx=>?_⟩
        rcases AH8 (show x∈(p.1.set (crd l) (j:Int)).take c.homes.length from hx) with hx | rfl
        · exact h.lo x hx
        · omega
      · cases ht
    · split at ht
      · rw [List.mem_singleton.1 ht];exact ⟨h.len,h.lo⟩
      · cases ht
theorem Bl1 {c:Cb} {wrong:Int} {ok:Rule} (hc:1≤c.slots) (hl:c.homes.length≤5) (hh:∀ x∈c.homes,-1≤x∧x≤c.slots - 1) (hw:wrong≤12):∀ k,∀ p∈playX c wrong ok k,Gd c p
  | 0,p,hp=>by
    rw [List.mem_singleton.1 hp];refine ⟨?_,fun x hx=>?_,Int.le_refl _,(by decide:(0:Int)≤12)⟩
    · show (c.homes++List.replicate (5 - c.homes.length) 0).length=5
      rw [List.length_append,List.length_replicate];omega
    · have:(c.homes++List.replicate (5 - c.homes.length) (0:Int)).take c.homes.length=c.homes:=by simp
      exact hh x (by rw [← this];exact hx)
  | k + 1,p,hp=>by
    rcases AG3 (show p∈addAll [] _ from hp) with hp | hp
    · cases hp
    · obtain ⟨q,hq,hp⟩:=List.mem_flatMap.1 hp
      have hg:=Bl1 hc hl hh hw k q hq;obtain ⟨t,ht,hp⟩:=List.mem_flatMap.1 hp;have h1:=BR2 hg hc _ t ht;unfold add1 at hp
      split at hp
      · rename_i h2
        rw [List.mem_singleton.1 hp];refine ⟨h1.1,h1.2,?_,?_⟩
        · show 0≤q.2 + b2i t.2
          have:=hg.ge
          unfold b2i;split <;> omega
        · exact Int.le_trans h2.1 hw
      · cases hp
end Go.Le
namespace Go.Proofs.YtmkdbdbenfbkhaaGreatDoor
open Go Go.Eng
theorem AG9:arrB Tryz.prog 151=some (5,1):=by kernel_rfl
theorem Av9:Enters Tryz.prog 173:=Aa3 Tryz.func173 (by kernel_rfl) rfl
theorem Cc6:Enters Tryz.prog 174:=Aa3 Tryz.func174 (by kernel_rfl) rfl
theorem Cb3:Enters Tryz.prog 227:=Aa3 Tryz.func227 (by kernel_rfl) rfl
theorem Au3:fieldB Tryz.prog 104 0=some 0:=by kernel_rfl
instance:Fld Tryz.prog 104 0 0:=⟨Au3⟩
theorem BF6:(Tryz.prog.underlying 212).any (fun t=>match t with | .interface _=>false | _=>true)=true:=by kernel_rfl
theorem BK4:placesB Tryz.prog 212=some [(0,1)]:=by kernel_rfl
theorem AG2:placesB Tryz.prog 223=some [(0,1),(1,1)]:=by kernel_rfl
theorem AA4:slB Tryz.prog 216=some (223,2):=by kernel_rfl
instance:Slc Tryz.prog 216 223 2:=⟨AA4⟩
theorem BC9:zeroB Tryz.prog 212=some [.int .i64 0]:=by kernel_rfl
theorem AL1:zeroB Tryz.prog 223=some [.nilFunc,.nilFunc]:=by kernel_rfl
end Go.Proofs.YtmkdbdbenfbkhaaGreatDoor
namespace Go.Le
open Go Go.Eng Go.Bk Go.RowKit
def loanV (c:Cb) (l:Ln):Bool :=
  if l.kind=0∨l.kind=1 then within l.card 0 ((c.homes.length:Int) - 1) && within l.person 0 7
  else if l.kind=2 then within l.slot 0 (c.slots - 1) && (decide (l.card = -1) || within l.card 0 ((c.homes.length:Int) - 1))
  else false
def cabV (c:Cb):Bool:=within c.slots 1 6 && decide (c.homes.length≤5) && within c.wrong 0 12 && decide (c.loans.length≤12) && homesX c c.homes.length && !c.loans.any fun l=>!loanV c l
theorem Bu2 {s:List Int} (h:s.length=5):∃ a b c d e,s=[a,b,c,d,e]:=by
  match s,h with
  | [a,b,c,d,e],_=>exact ⟨a,b,c,d,e,rfl⟩
section
variable {P:Program}
theorem Bg8 {w:World} {b:Nat} {T T0:TypeId} {fr:Nat×Nat} {l:List Int} {cs:List Value} (h:w.heap[b]? = some (.cells cs.toArray T0 fr)) (hc:cs=l.map (Value.int .i64)) (hT:tyB P T=some (false,1)) {i:Int} (h0:0≤i) (hi:i < (l.length:Int)) {x:Int} (hx:l.getD i.toNat 0=x) :
    (loadVar T ⟨b,0 + i.toNat * 1,none⟩).run P w = .ok (.int .i64 x) w:=by
  subst hc;have hi':i.toNat < l.length:=by omega
  refine Ah4 hT ?_;rw [Ae6 h];rw [List.getD_eq_getElem?_getD,List.getElem?_eq_getElem hi'] at hx;simp at hx
  simp [hi',hx]
theorem Bl6 {l l':List Int} {cs cs':List Value} {i:Nat} {v:Int} (hc:cs=l.map (Value.int .i64)) (hc':cs'=l'.map (Value.int .i64)) (hi:i < l.length) (h:l.set i v=l'):paste cs (0 + i * 1) (cellsL (.int .i64 v))=some cs':=by
  subst hc;subst hc';subst h
  have:paste (l.map (Value.int .i64)) i (cellsL (.int .i64 v))=some ((l.map (Value.int .i64)).set i (.int .i64 v)):=AO8 rfl (by simpa using hi)
  rw [Nat.zero_add,Nat.mul_one,this,List.map_set]
end
end Go.Le
namespace Go.Proofs.YtmkdbdbenfbkhaaGreatDoor
open Go Go.Eng Go.Bk Go.Le Go.RowKit

def lmis (k:Int):Value:=.iface 212 (.agg #[.int .i64 k])
theorem Bm7 (b:Bool) (e:Int) (W:World):Calls Tryz.prog 64 #[.bool b,.int .i64 e] W (Try lmis (needX b e) W):=by
  refine Aa2 Tryz.func64 rfl rfl ?_;refine st ?_;refine cn rfl ?_ ?_
  ·intro c0'
   refine st ?_;refine lv (Val.build (parts:=[(0,.tmp 6)]) rfl BC9 BK4 rfl) ?_;refine lv (Val.makeInterface rfl BF6) ?_;refine Ap7 rfl ?_;exact Am8 (k:=e) (by simp [needX,show b=false by simpa using c0'])
  intro c0';refine st ?_;exact Ax7 (.r0 rfl) (by simp [needX,show b=true by simpa using c0'])
theorem Ah2 (n lo hi:Int) (W:World):Calls Tryz.prog 173 #[.int .i64 n,.int .i64 lo,.int .i64 hi] W (Pure (.bool (within n lo hi)) W):=by
  refine Aa2 Tryz.func173 rfl rfl ?_;refine st ?_
  refine Ab3 (dj:=10) (dp:=14) 4 rfl (fun g10=>by
    have g10':=g10;try simp only [nH] at g10'
    refine sv ?_;exact zs g10
  ) (fun g10=>by
    have g10':=g10;try simp only [nH] at g10'
    iterate 3 refine Ac9 rfl rfl rfl ?_
    refine sv ?_;exact zs g10
  ) ?_
  refine su ?_;exact Aa4 (.r1 rfl (.tmp rfl)) (by first | rfl | simp)
abbrev cabO (c:CbA):Obj:=.cells c.cells.toArray 104 (0,0)
theorem AD7 (c:CbA) (bc:Nat) (n:Int) (W:World) (hb:W.heap[bc]? = some (cabO c)) (hl:c.homes.l.length≤10000):Calls Tryz.prog 227 #[.pointer (some ⟨bc,0,none⟩),.int .i64 n] W (Pure (.bool (within n 0 ((c.homes.l.length:Int) - 1))) W):=by
  refine Aa2 Tryz.func227 rfl rfl ?_;refine su ?_;refine lu (Aa9 rfl hb (by simp) As7 rfl) ?_;refine lv (Aj9 rfl rfl (IntWalk.i64_in _ ⟨by omega,by omega⟩)) ?_;refine zc (zF rfl Av9) (fun w hm=>Ah2 _ _ _ w) ?_;exact Aa4 (.r1 rfl (.tmp rfl)) (by first | rfl | simp)
theorem AI3 (c:CbA) (bc:Nat) (n:Int) (W:World) (hb:W.heap[bc]? = some (cabO c)) (hs:within c.slots 1 6=true):Calls Tryz.prog 174 #[.pointer (some ⟨bc,0,none⟩),.int .i64 n] W (Pure (.bool (within n 0 (c.slots - 1))) W):=by
  simp only [within,Bool.and_eq_true,decide_eq_true_eq] at hs;refine Aa2 Tryz.func174 rfl rfl ?_;refine su ?_;refine lv (Aa9 rfl hb (by simp) Af4 rfl) ?_;refine lv (Aj9 rfl rfl (IntWalk.i64_in _ ⟨by omega,by omega⟩)) ?_;refine zc (zF rfl Av9) (fun w hm=>Ah2 _ _ _ w) ?_;exact Aa4 (.r1 rfl (.tmp rfl)) (by first | rfl | simp)
theorem AI5 (c:CbA) (bc:Nat) (l:Ln) (W:World) (hb:W.heap[bc]? = some (cabO c)) (hl:c.homes.l.length≤10000):Calls Tryz.prog 176 #[.pointer (some ⟨bc,0,none⟩),.agg l.cells.toArray] W (Pure (.bool (within l.card 0 ((c.homes.l.length:Int) - 1) && within l.person 0 7)) W):=by
  refine Aa2 Tryz.func176 rfl rfl ?_;refine st ?_;refine zn (New.box rfl) (fun b3=>?_)
  refine zc (zF rfl Cb3) (fun w hm=>AD7 c bc _ w (hm.old_at hb (by simp)) hl) ?_
  refine Ab3 (dj:=9) (dp:=13) 4 rfl (fun g9=>by
    have g9':=g9;try simp only [nH] at g9'
    refine su ?_;refine Ab1 (zF rfl Av9) rfl rfl rfl (fun w hm=>Ah2 _ _ _ w) ?_;refine sv ?_;exact zs g9
  ) (fun g9=>by
    have g9':=g9;try simp only [nH] at g9'
    iterate 3 refine Ac9 rfl rfl rfl ?_
    refine sv ?_;exact zs g9
  ) ?_
  refine su ?_;exact Aa4 (.r1 rfl (.tmp rfl)) (by first | rfl | simp)
theorem Bn9 (c:CbA) (bc:Nat) (l:Ln) (W:World) (hb:W.heap[bc]? = some (cabO c)) (hl:c.homes.l.length≤10000) (hs:within c.slots 1 6=true):Calls Tryz.prog 179 #[.pointer (some ⟨bc,0,none⟩),.agg l.cells.toArray] W (Pure (.bool (within l.slot 0 (c.slots - 1) && (decide (l.card = -1) || within l.card 0 ((c.homes.l.length:Int) - 1)))) W):=by
  refine Aa2 Tryz.func179 rfl rfl ?_;refine st ?_;refine zn (New.box rfl) (fun b3=>?_)
  refine zc (zF rfl Cc6) (fun w hm=>AI3 c bc _ w (hm.old_at hb (by simp)) hs) ?_
  refine Ab3 (dj:=9) (dp:=19) 10 rfl (fun g9=>by
    have g9':=g9;try simp only [nH] at g9'
    refine su ?_
    refine Ae1 (dj:=13) (dp:=18) 5 rfl (fun g13=>by
      have g13':=g13;try simp only [nH] at g13'
      refine su ?_;refine Ab1 (zF rfl Cb3) rfl rfl rfl (fun w hm=>AD7 c bc _ w (hm.old_at hb (by simp)) hl) ?_;refine sv ?_;exact zs g13
    ) (fun g13=>by
      have g13':=g13;try simp only [nH] at g13'
      iterate 4 refine Ac9 rfl rfl rfl ?_
      refine sv ?_;exact zs g13
    ) ?_
    refine sv ?_;exact zs g9
  ) (fun g9=>by
    have g9':=g9;try simp only [nH] at g9'
    iterate 9 refine Ac9 rfl rfl rfl ?_
    refine sv ?_;exact zs g9
  ) ?_
  refine su ?_;exact Aa4 (.r1 rfl (.tmp rfl)) (by first | rfl | simp)
abbrev kindsO:Obj:=.cells [.func (.func 176) #[] #[],.func (.func 177) #[] #[],.func (.func 176) #[] #[],.func (.func 178) #[] #[],.func (.func 179) #[] #[],.func (.func 180) #[] #[]].toArray 223 (0,0)
theorem AD8 (W:World):Calls Tryz.prog 116 #[] W (News (fun b=>.slice (some ⟨b,0,none⟩) 3 3) (fun b=>[(b,kindsO)]) W):=by
  refine Aa2 Tryz.func116 rfl rfl ?_;refine st ?_;refine lv (Val.build (parts:=[(0,.func 176),(1,.func 177)]) rfl AL1 AG2 rfl) ?_;refine lv (Val.build (parts:=[(0,.func 176),(1,.func 178)]) rfl AL1 AG2 rfl) ?_;refine lv (Val.build (parts:=[(0,.func 179),(1,.func 180)]) rfl AL1 AG2 rfl) ?_;refine zn (New.buildSlice (parts:=[(0,.tmp 1),(1,.tmp 2),(2,.tmp 3)]) rfl AA4 AL1 rfl rfl rfl rfl) (fun b4=>?_)
  exact RunE.ret (chg:=[]) (.r1 rfl (.tmp rfl)) (fun _ hm=>⟨b4,rfl,hm⟩)
theorem AX7 (c:CbA) (bc:Nat) (s:List Int) (slot:Int) (W:World) (hb:W.heap[bc]? = some (cabO c)) (hl:c.homes.l.length≤5) (hs:s.length=5):Calls Tryz.prog 230 #[.pointer (some ⟨bc,0,none⟩),.agg (s.map (Value.int .i64)).toArray,.int .i64 slot] W (Pure (.int .i64 (liesX c.homes.l.length s slot)) W):=by
  obtain ⟨x0,x1,x2,x3,x4,rfl⟩:=Bu2 hs;obtain ⟨s,hse⟩:∃ s,s=[x0,x1,x2,x3,x4]:=⟨_,rfl⟩;rw [← hse] at hs ⊢;have hs':[Value.int .i64 x0,.int .i64 x1,.int .i64 x2,.int .i64 x3,.int .i64 x4]=s.map (Value.int .i64):=by rw [hse];rfl
  rw [← hs'];have hsl:(s.take c.homes.l.length).length=c.homes.l.length:=by rw [List.length_take];omega
  have hgt:∀ j,j < c.homes.l.length→∀ h,(s.take c.homes.l.length)[j]'h=s.getD j 0:=fun j hj h=>by rw [List.getElem_take,List.getD_eq_getElem?_getD,List.getElem?_eq_getElem (by omega)];rfl
  refine Aa2 Tryz.func230 rfl rfl ?_;refine st ?_;refine zn (New.box rfl) (fun b4=>?_)
  refine lu (Aa9 rfl hb (by simp) As7 rfl) ?_;refine Ad6 (c.homes.l.length) (fun k q=>(14,.int .i64 (k:Int))::q) (fun _=>_) (fun _=>[]) (fun k=>∀ j,j < k→s.getD j 0 ≠ slot) (fun j h=>absurd h (by omega)) rfl (zE 14 rfl rfl (zS 0 rfl (zS 2 rfl (zS 4 rfl (zS 13 rfl (Sub.nil _)))))) (.cons .here rfl .nil) ?_;intro k kN kI;refine st ?_;refine cn rfl ?_ ?_
  ·intro c0'
   have hk:k < c.homes.l.length:=by omega
   refine st ?_;refine lv (Aj1 rfl rfl AG9 (by omega) (by omega)) ?_;refine lv (Ab2 rfl (fun w hm=>Bg8 (l:=s) (hm.at (.head _)) hs' Af4 (i:=(k:Int)) (by omega) (by omega) rfl)) ?_;refine cn rfl ?_ ?_
   ·intro c1'
    refine su ?_;exact Aa4 (.r1 rfl (.tmp rfl)) (by unfold liesX;rw [Ar9 (k:=k) (by omega) (by rw [hgt k hk];exact decide_eq_true c1') (fun j hj h=>by rw [hgt j (by omega)];exact decide_eq_false (kI j h))])
   intro c1';refine st ?_;refine lv (Val.add rfl rfl (IntWalk.i64_in _ ⟨by omega,by omega⟩)) ?_;exact Ad2 (by omega) (fun j h1=>by (rcases Nat.lt_or_ge j k with h4 | h4;exact kI j h4;have e:j=k:=(by omega);subst e;exact c1')) rfl (zE 14 rfl rfl (zS 0 rfl (zS 2 rfl (zS 4 rfl (zS 13 rfl (Sub.nil _)))))) (.cons .here rfl .nil)
  intro c0';obtain rfl:k=c.homes.l.length:=by omega
  refine RunC.exit ?_;refine su ?_;refine Ab0 ?_;refine su ?_;exact Aa4 (.r1 rfl (.tmp rfl)) (by unfold liesX;rw [Ar8 (fun j hj=>by rw [hgt j (by omega)];exact decide_eq_false (kI j (by omega)))])
end Go.Proofs.YtmkdbdbenfbkhaaGreatDoor
namespace Go.Proofs.YtmkdbdbenfbkhaaGreatDoor
open Go Go.Eng
theorem CF3:Enters Tryz.prog 115:=Aa3 Tryz.func115 (by kernel_rfl) rfl
theorem Cd9:Enters Tryz.prog 116:=Aa3 Tryz.func116 (by kernel_rfl) rfl
theorem CD8:Enters Tryz.prog 175:=Aa3 Tryz.func175 (by kernel_rfl) rfl
theorem Cc5:Enters Tryz.prog 176:=Aa3 Tryz.func176 (by kernel_rfl) rfl
theorem CD7:Enters Tryz.prog 179:=Aa3 Tryz.func179 (by kernel_rfl) rfl
theorem CL8:Enters Tryz.prog 64:=Aa3 Tryz.func64 (by kernel_rfl) rfl
theorem AE4:fieldB Tryz.prog 223 0=some 0:=by kernel_rfl
instance:Fld Tryz.prog 223 0 0:=⟨AE4⟩
theorem BL3:placesB Tryz.prog 104=some [(0,4)]:=by kernel_rfl
theorem AV4:tyB Tryz.prog 101=some (false,1):=by kernel_rfl
instance:Tyc Tryz.prog 101 false 1:=⟨AV4⟩
theorem AC8:tyB Tryz.prog 216=some (false,1):=by kernel_rfl
instance:Tyc Tryz.prog 216 false 1:=⟨AC8⟩
theorem BD7:tyB Tryz.prog 220=some (false,1):=by kernel_rfl
instance:Tyc Tryz.prog 220 false 1:=⟨BD7⟩
theorem Ci3:zeroB Tryz.prog 104=some [.int .i64 0,.slice none 0 0,.int .i64 0,.slice none 0 0]:=by kernel_rfl
theorem Ch4:zeroB Tryz.prog 216=some [.slice none 0 0]:=by kernel_rfl
end Go.Proofs.YtmkdbdbenfbkhaaGreatDoor
namespace Go.Le
open Go Go.Eng Go.Bk Go.RowKit
theorem Ay9 {c:Cb} {l:Ln} (h:l.kind=0∨l.kind=1):loanV c l=(within l.card 0 ((c.homes.length:Int) - 1) && within l.person 0 7):=by unfold loanV;rw [if_pos h]
theorem BL8 {c:Cb} {l:Ln} (h:l.kind=2):loanV c l=(within l.slot 0 (c.slots - 1) && (decide (l.card = -1) || within l.card 0 ((c.homes.length:Int) - 1))):=by unfold loanV;rw [if_neg (by omega),if_pos h]
theorem BG0 {c:Cb} {l:Ln} (h:within l.kind 0 2=false):loanV c l=false:=by
  simp only [within,Bool.and_eq_false_iff,decide_eq_false_iff_not] at h;unfold loanV;rw [if_neg (by omega),if_neg (by omega)]
theorem Cz1 {k:Int} (h:within k 0 2=true):k=0∨k=1∨k=2:=by
  simp only [within,Bool.and_eq_true,decide_eq_true_eq] at h;omega
structure CV (c:Cb):Prop where
  slots:1≤c.slots∧c.slots≤6
  few:c.homes.length≤5
  wrong:0≤c.wrong∧c.wrong≤12
  lfew:c.loans.length≤12
  homes:homesX c c.homes.length=true
  loans:∀ l∈c.loans,loanV c l=true
theorem Cp6 {c:Cb} (h:cabV c=true):CV c:=by
  unfold cabV at h;simp only [within,Bool.and_eq_true,decide_eq_true_eq,Bool.not_eq_true',List.any_eq_false,Bool.not_eq_false] at h;obtain ⟨⟨⟨⟨⟨h1,h2⟩,h3⟩,h4⟩,h5⟩,h6⟩:=h;exact ⟨h1,h2,h3,h4,h5,fun l hl=>by simpa using h6 l hl⟩
theorem CV.hom {c:Cb} (h:CV c):∀ x∈c.homes,-1≤x∧x≤c.slots - 1:=fun x hx=>by
  obtain ⟨i,hi,rfl⟩:=List.getElem_of_mem hx;have h1:=h.homes;unfold homesX at h1;rw [List.all_eq_true] at h1;have h2:=h1 i (List.mem_range.2 hi);simp only [within,Bool.and_eq_true,decide_eq_true_eq] at h2;rw [List.getD_eq_getElem?_getD,List.getElem?_eq_getElem hi] at h2;simp at h2
  omega
theorem CG5 {c:Cb} (h:((within c.slots 1 6=false∨5 < (c.homes.length:Int))∨within c.wrong 0 12=false)∨12 < (c.loans.length:Int)):cabV c=false:=by
  rw [Bool.eq_false_iff];intro h9;have h8:=Cp6 h9;have h1:=h8.slots;have h2:=h8.few;have h3:=h8.wrong;have h4:=h8.lfew;simp only [within,Bool.and_eq_false_iff,decide_eq_false_iff_not] at h;omega
theorem CG4 {c:Cb} {k:Nat} (hk:k < c.homes.length) (h:homesX c (k + 1)=false):cabV c=false:=by
  rw [Bool.eq_false_iff];intro h9;have h8:=(Cp6 h9).homes;unfold homesX at h h8;rw [List.all_eq_true] at h8;rw [List.all_eq_false] at h;obtain ⟨x,hx,h⟩:=h;exact h (h8 x (List.mem_range.2 (by have:=List.mem_range.1 hx;omega)))
theorem CG2 {c:Cb} (h:((within c.slots 1 6=true∧(c.homes.length:Int)≤5)∧within c.wrong 0 12=true)∧(c.loans.length:Int)≤12) (hh:homesX c c.homes.length=true):cabV c = !c.loans.any fun l=>!loanV c l:=by
  unfold cabV;obtain ⟨⟨⟨h1,h2⟩,h3⟩,h4⟩:=h;rw [h1,h3,hh,decide_eq_true (show c.homes.length≤5 by omega),decide_eq_true (show c.loans.length≤12 by omega)];simp
def openC (c:Cb):Except Int Unit:=if cabV c=true then .ok () else .error 1
theorem Cm0 {c:Cb} {u:Unit} (h:openC c = .ok u):cabV c=true:=by
  unfold openC at h
  split at h
  · assumption
  · cases h
theorem BU9 {c:Cb} {k:Int} (h:openC c = .error k):cabV c=false∧k=1:=by
  unfold openC at h
  split at h
  · cases h
  · rename_i h2
    cases h
    exact ⟨by simpa using h2,rfl⟩
end Go.Le
namespace Go.Proofs.YtmkdbdbenfbkhaaGreatDoor
open Go Go.Eng Go.Bk Go.Le Go.RowKit

theorem Bg5 (c:CbA) (bc b1 b2 bk:Nat) (l:Ln) (W:World) (hb:W.heap[bc]? = some (cabO c)) (hl:c.homes.l.length≤10000) (hs:within c.slots 1 6=true)
    (h1:W.heap[b1]? = some (.cells [.slice (some ⟨bk,0,none⟩) 3 3].toArray 216 (0,0))) (h2:W.heap[b2]? = some (.cells [.pointer (some ⟨bc,0,none⟩)].toArray 101 (0,0))) (hk:W.heap[bk]? = some kindsO) :
    Calls Tryz.prog 175 #[.agg l.cells.toArray,.pointer (some ⟨b1,0,none⟩),.pointer (some ⟨b2,0,none⟩)] W (Pure (.bool (!loanV c.pl l)) W):=by
  cases hw:within l.kind 0 2 with
  | false =>
    rw [BG0 hw];refine Aa2 Tryz.func175 rfl rfl ?_;refine csr ?_;refine Ac3 (New.box rfl) rfl rfl rfl (fun b3=>?_)
    refine vp rfl rfl rfl rfl ?_;refine nnx ?_;refine RunC.seq ?_;refine Ae9 16 As5 (.cons .here rfl .nil) ?_;refine va 0 rfl (Val.fieldAddr rfl An9) rfl rfl rfl (.cons .here rfl .nil) rfl ?_;refine va 1 rfl (Aa1 rfl (.head _) Af4 rfl) rfl rfl rfl (.cons .here rfl .nil) rfl ?_;refine va 2 rfl (Aa9 rfl h1 (by simp) AC8 rfl) rfl rfl rfl (.cons .here rfl .nil) rfl ?_;refine va 3 rfl (Ad7 rfl AA4) rfl rfl rfl (.cons .here rfl .nil) rfl ?_;refine va 4 rfl (Aj9 rfl rfl (IntWalk.i64_in _ ⟨by omega,by omega⟩)) rfl rfl rfl (.cons .here rfl .nil) rfl ?_;refine RunA.one (i:=5) (by kernel_rfl) (by kernel_rfl) ?_;refine Ac4 rfl (Ab7 rfl Av9) rfl rfl rfl (fun w hm=>Ah2 _ _ _ w) (Aa5 (.cons .here rfl .nil) (.cons .here rfl .nil) rfl ?_)
    refine va 6 rfl (Aa8 rfl) rfl rfl rfl (.cons .here rfl .nil) rfl ?_;refine va 7 rfl (Aa8 rfl) rfl rfl rfl (.cons .here rfl .nil) rfl ?_;refine Ay0 (dj:=12) true rfl (by simp [hw]) ?_;refine Ak0 (i:=8) rfl (by kernel_rfl) (by kernel_rfl) rfl rfl rfl (fun _ _ _ h=>h) (.cons .here rfl .nil) rfl ?_;refine Ak0 (i:=9) rfl (by kernel_rfl) (by kernel_rfl) rfl rfl rfl (fun _ _ _ h=>h) (.cons .here rfl .nil) rfl ?_;refine Ak0 (i:=10) rfl (by kernel_rfl) (by kernel_rfl) rfl rfl rfl (fun _ _ _ h=>h) (.cons .here rfl .nil) rfl ?_;refine Ak0 (i:=11) rfl (by kernel_rfl) (by kernel_rfl) rfl rfl rfl (fun _ _ _ h=>h) (.cons .here rfl .nil) rfl ?_;refine Ak0 (i:=12) rfl (by kernel_rfl) (by kernel_rfl) rfl rfl rfl (fun _ _ _ h=>h) (.cons .here rfl .nil) rfl ?_;refine Ak0 (i:=13) rfl (by kernel_rfl) (by kernel_rfl) rfl rfl rfl (fun _ _ _ h=>h) (.cons .here rfl .nil) rfl ?_;refine Ak0 (i:=14) rfl (by kernel_rfl) (by kernel_rfl) rfl rfl rfl (fun _ _ _ h=>h) (.cons .here rfl .nil) rfl ?_;refine Ak0 (i:=15) rfl (by kernel_rfl) (by kernel_rfl) rfl rfl rfl (fun _ _ _ h=>h) (.cons .here rfl .nil) rfl ?_;refine Af3 (by kernel_rfl) ?_;refine RunB.one (i:=16) (by kernel_rfl) ?_;refine Ac6 rfl rfl rfl rfl (Ab5 ?_)
    refine RunB.one (i:=17) (by kernel_rfl) ?_;refine Ac6 rfl rfl rfl rfl (Ab5 ?_)
    refine RunB.one (i:=18) (by kernel_rfl) ?_;refine Ac2 rfl (Aa8 rfl) rfl rfl rfl (Ab5 ?_)
    refine RunB.one (i:=19) (by kernel_rfl) ?_;refine Ac2 rfl (Aa8 rfl) rfl rfl rfl (Ab5 ?_)
    refine RunB.done (by kernel_rfl) ?_;refine RunE.next ?_;refine RunC.ret ?_;exact Aa4 (.r1 rfl (.tmp rfl)) (by first | rfl | simp)
  | true =>
    obtain ⟨kind,card,person,slot⟩:=l
    rcases Cz1 hw with hk0 | hk0 | hk0 <;> (dsimp only at hk0;subst hk0)
    · rw [Ay9 (.inl rfl)]
      refine Aa2 Tryz.func175 rfl rfl ?_;refine csr ?_;refine Ac3 (New.box rfl) rfl rfl rfl (fun b3=>?_)
      refine vp rfl rfl rfl rfl ?_;refine nnx ?_;refine RunC.seq ?_;refine Ae9 16 As5 (.cons .here rfl .nil) ?_;refine va 0 rfl (Val.fieldAddr rfl An9) rfl rfl rfl (.cons .here rfl .nil) rfl ?_;refine va 1 rfl (Aa1 rfl (.head _) Af4 rfl) rfl rfl rfl (.cons .here rfl .nil) rfl ?_;refine va 2 rfl (Aa9 rfl h1 (by simp) AC8 rfl) rfl rfl rfl (.cons .here rfl .nil) rfl ?_;refine va 3 rfl (Ad7 rfl AA4) rfl rfl rfl (.cons .here rfl .nil) rfl ?_;refine va 4 rfl (Aj9 rfl rfl (IntWalk.i64_in _ ⟨by omega,by omega⟩)) rfl rfl rfl (.cons .here rfl .nil) rfl ?_;refine RunA.one (i:=5) (by kernel_rfl) (by kernel_rfl) ?_;refine Ac4 rfl (Ab7 rfl Av9) rfl rfl rfl (fun w hm=>Ah2 _ _ _ w) (Aa5 (.cons .here rfl .nil) (.cons .here rfl .nil) rfl ?_)
      refine va 6 rfl (Aa8 rfl) rfl rfl rfl (.cons .here rfl .nil) rfl ?_;refine va 7 rfl (Aa8 rfl) rfl rfl rfl (.cons .here rfl .nil) rfl ?_;refine Ay0 (dj:=12) false rfl rfl ?_;refine va 8 rfl (Aa9 rfl h1 (by simp) AC8 rfl) rfl rfl rfl (.cons .here rfl .nil) rfl ?_;refine va 9 rfl (Val.fieldAddr rfl An9) rfl rfl rfl (.cons .here rfl .nil) rfl ?_;refine va 10 rfl (Aa1 rfl (.head _) Af4 rfl) rfl rfl rfl (.cons .here rfl .nil) rfl ?_;refine va 11 rfl (Ag8 rfl rfl AA4 (of_decide_eq_true rfl) (of_decide_eq_true rfl)) rfl rfl rfl (.cons .here rfl .nil) rfl ?_;refine va 12 rfl (Val.fieldAddr rfl AE4) rfl rfl rfl (.cons .here rfl .nil) rfl ?_;refine va 13 rfl (Aa9 rfl hk (by simp) BD7 rfl) rfl rfl rfl (.cons .here rfl .nil) rfl ?_;refine va 14 rfl (Aa9 rfl h2 (by simp) AV4 rfl) rfl rfl rfl (.cons .here rfl .nil) rfl ?_;refine va 15 rfl (Ab6 rfl (.head _) As9 rfl) rfl rfl rfl (.cons .here rfl .nil) rfl ?_;refine Af3 (by kernel_rfl) ?_;refine RunB.one (i:=16) (by kernel_rfl) ?_;refine Ac4 rfl (Ac1 rfl rfl Cc5) rfl rfl rfl (fun w hm=>AI5 c bc _ w (hm.old_at hb (by simp)) hl) (Ab5 ?_)
      refine RunB.one (i:=17) (by kernel_rfl) ?_;refine Ac2 rfl (Aa8 rfl) rfl rfl rfl (Ab5 ?_)
      refine RunB.one (i:=18) (by kernel_rfl) ?_;refine Ac2 rfl (Aa8 rfl) rfl rfl rfl (Ab5 ?_)
      refine RunB.one (i:=19) (by kernel_rfl) ?_;refine Ac2 rfl (Aa8 rfl) rfl rfl rfl (Ab5 ?_)
      refine RunB.done (by kernel_rfl) ?_;refine RunE.next ?_;refine RunC.ret ?_;exact Aa4 (.r1 rfl (.tmp rfl)) (by first | rfl | simp)
    · rw [Ay9 (.inr rfl)]
      refine Aa2 Tryz.func175 rfl rfl ?_;refine csr ?_;refine Ac3 (New.box rfl) rfl rfl rfl (fun b3=>?_)
      refine vp rfl rfl rfl rfl ?_;refine nnx ?_;refine RunC.seq ?_;refine Ae9 16 As5 (.cons .here rfl .nil) ?_;refine va 0 rfl (Val.fieldAddr rfl An9) rfl rfl rfl (.cons .here rfl .nil) rfl ?_;refine va 1 rfl (Aa1 rfl (.head _) Af4 rfl) rfl rfl rfl (.cons .here rfl .nil) rfl ?_;refine va 2 rfl (Aa9 rfl h1 (by simp) AC8 rfl) rfl rfl rfl (.cons .here rfl .nil) rfl ?_;refine va 3 rfl (Ad7 rfl AA4) rfl rfl rfl (.cons .here rfl .nil) rfl ?_;refine va 4 rfl (Aj9 rfl rfl (IntWalk.i64_in _ ⟨by omega,by omega⟩)) rfl rfl rfl (.cons .here rfl .nil) rfl ?_;refine RunA.one (i:=5) (by kernel_rfl) (by kernel_rfl) ?_;refine Ac4 rfl (Ab7 rfl Av9) rfl rfl rfl (fun w hm=>Ah2 _ _ _ w) (Aa5 (.cons .here rfl .nil) (.cons .here rfl .nil) rfl ?_)
      refine va 6 rfl (Aa8 rfl) rfl rfl rfl (.cons .here rfl .nil) rfl ?_;refine va 7 rfl (Aa8 rfl) rfl rfl rfl (.cons .here rfl .nil) rfl ?_;refine Ay0 (dj:=12) false rfl rfl ?_;refine va 8 rfl (Aa9 rfl h1 (by simp) AC8 rfl) rfl rfl rfl (.cons .here rfl .nil) rfl ?_;refine va 9 rfl (Val.fieldAddr rfl An9) rfl rfl rfl (.cons .here rfl .nil) rfl ?_;refine va 10 rfl (Aa1 rfl (.head _) Af4 rfl) rfl rfl rfl (.cons .here rfl .nil) rfl ?_;refine va 11 rfl (Ag8 rfl rfl AA4 (of_decide_eq_true rfl) (of_decide_eq_true rfl)) rfl rfl rfl (.cons .here rfl .nil) rfl ?_;refine va 12 rfl (Val.fieldAddr rfl AE4) rfl rfl rfl (.cons .here rfl .nil) rfl ?_;refine va 13 rfl (Aa9 rfl hk (by simp) BD7 rfl) rfl rfl rfl (.cons .here rfl .nil) rfl ?_;refine va 14 rfl (Aa9 rfl h2 (by simp) AV4 rfl) rfl rfl rfl (.cons .here rfl .nil) rfl ?_;refine va 15 rfl (Ab6 rfl (.head _) As9 rfl) rfl rfl rfl (.cons .here rfl .nil) rfl ?_;refine Af3 (by kernel_rfl) ?_;refine RunB.one (i:=16) (by kernel_rfl) ?_;refine Ac4 rfl (Ac1 rfl rfl Cc5) rfl rfl rfl (fun w hm=>AI5 c bc _ w (hm.old_at hb (by simp)) hl) (Ab5 ?_)
      refine RunB.one (i:=17) (by kernel_rfl) ?_;refine Ac2 rfl (Aa8 rfl) rfl rfl rfl (Ab5 ?_)
      refine RunB.one (i:=18) (by kernel_rfl) ?_;refine Ac2 rfl (Aa8 rfl) rfl rfl rfl (Ab5 ?_)
      refine RunB.one (i:=19) (by kernel_rfl) ?_;refine Ac2 rfl (Aa8 rfl) rfl rfl rfl (Ab5 ?_)
      refine RunB.done (by kernel_rfl) ?_;refine RunE.next ?_;refine RunC.ret ?_;exact Aa4 (.r1 rfl (.tmp rfl)) (by first | rfl | simp)
    · rw [BL8 rfl]
      refine Aa2 Tryz.func175 rfl rfl ?_;refine csr ?_;refine Ac3 (New.box rfl) rfl rfl rfl (fun b3=>?_)
      refine vp rfl rfl rfl rfl ?_;refine nnx ?_;refine RunC.seq ?_;refine Ae9 16 As5 (.cons .here rfl .nil) ?_;refine va 0 rfl (Val.fieldAddr rfl An9) rfl rfl rfl (.cons .here rfl .nil) rfl ?_;refine va 1 rfl (Aa1 rfl (.head _) Af4 rfl) rfl rfl rfl (.cons .here rfl .nil) rfl ?_;refine va 2 rfl (Aa9 rfl h1 (by simp) AC8 rfl) rfl rfl rfl (.cons .here rfl .nil) rfl ?_;refine va 3 rfl (Ad7 rfl AA4) rfl rfl rfl (.cons .here rfl .nil) rfl ?_;refine va 4 rfl (Aj9 rfl rfl (IntWalk.i64_in _ ⟨by omega,by omega⟩)) rfl rfl rfl (.cons .here rfl .nil) rfl ?_;refine RunA.one (i:=5) (by kernel_rfl) (by kernel_rfl) ?_;refine Ac4 rfl (Ab7 rfl Av9) rfl rfl rfl (fun w hm=>Ah2 _ _ _ w) (Aa5 (.cons .here rfl .nil) (.cons .here rfl .nil) rfl ?_)
      refine va 6 rfl (Aa8 rfl) rfl rfl rfl (.cons .here rfl .nil) rfl ?_;refine va 7 rfl (Aa8 rfl) rfl rfl rfl (.cons .here rfl .nil) rfl ?_;refine Ay0 (dj:=12) false rfl rfl ?_;refine va 8 rfl (Aa9 rfl h1 (by simp) AC8 rfl) rfl rfl rfl (.cons .here rfl .nil) rfl ?_;refine va 9 rfl (Val.fieldAddr rfl An9) rfl rfl rfl (.cons .here rfl .nil) rfl ?_;refine va 10 rfl (Aa1 rfl (.head _) Af4 rfl) rfl rfl rfl (.cons .here rfl .nil) rfl ?_;refine va 11 rfl (Ag8 rfl rfl AA4 (of_decide_eq_true rfl) (of_decide_eq_true rfl)) rfl rfl rfl (.cons .here rfl .nil) rfl ?_;refine va 12 rfl (Val.fieldAddr rfl AE4) rfl rfl rfl (.cons .here rfl .nil) rfl ?_;refine va 13 rfl (Aa9 rfl hk (by simp) BD7 rfl) rfl rfl rfl (.cons .here rfl .nil) rfl ?_;refine va 14 rfl (Aa9 rfl h2 (by simp) AV4 rfl) rfl rfl rfl (.cons .here rfl .nil) rfl ?_;refine va 15 rfl (Ab6 rfl (.head _) As9 rfl) rfl rfl rfl (.cons .here rfl .nil) rfl ?_;refine Af3 (by kernel_rfl) ?_;refine RunB.one (i:=16) (by kernel_rfl) ?_;refine Ac4 rfl (Ac1 rfl rfl CD7) rfl rfl rfl (fun w hm=>Bn9 c bc _ w (hm.old_at hb (by simp)) hl hs) (Ab5 ?_)
      refine RunB.one (i:=17) (by kernel_rfl) ?_;refine Ac2 rfl (Aa8 rfl) rfl rfl rfl (Ab5 ?_)
      refine RunB.one (i:=18) (by kernel_rfl) ?_;refine Ac2 rfl (Aa8 rfl) rfl rfl rfl (Ab5 ?_)
      refine RunB.one (i:=19) (by kernel_rfl) ?_;refine Ac2 rfl (Aa8 rfl) rfl rfl rfl (Ab5 ?_)
      refine RunB.done (by kernel_rfl) ?_;refine RunE.next ?_;refine RunC.ret ?_;exact Aa4 (.r1 rfl (.tmp rfl)) (by first | rfl | simp)
theorem AK5 (c:CbA) (bc:Nat) (W:World) (hb:W.heap[bc]? = some (cabO c)) (hC:CbOk W c) (hs:CbS c):Calls Tryz.prog 115 #[.pointer (some ⟨bc,0,none⟩)] W (Pure (.bool (cabV c.pl)) W):=by
  have h1:=hs.homes;have h2:=hs.loans;have e0:c.pl.slots=c.slots:=rfl;have e1:c.pl.homes=c.homes.l:=rfl;have e2:c.pl.wrong=c.wrong:=rfl;have e3:c.pl.loans=c.loans.l:=rfl;refine Aa2 Tryz.func115 rfl rfl ?_;refine st ?_;refine zn (New.box rfl) (fun b1=>?_)
  refine lv (Aa9 rfl hb (by simp) Af4 rfl) ?_;refine zc (zF rfl Av9) (fun w hm=>Ah2 _ _ _ w) ?_
  refine Ae1 (dj:=13) (dp:=21) 8 rfl (fun g13=>by
    have g13':=g13;try simp only [nH] at g13'
    refine su ?_;refine lv (Aa9 rfl hb (by simp) As7 rfl) ?_;refine Aa0 (Ad7 rfl Ak6) rfl rfl rfl ?_;refine sv ?_;exact zs g13
  ) (fun g13=>by
    have g13':=g13;try simp only [nH] at g13'
    iterate 7 refine Ac9 rfl rfl rfl ?_
    refine sv ?_;exact zs g13
  ) ?_
  refine st ?_
  refine Ae1 (dj:=22) (dp:=30) 8 rfl (fun g22=>by
    have g22':=g22;try simp only [nH] at g22'
    refine su ?_;refine lv (Aa9 rfl hb (by simp) Af4 rfl) ?_;refine Ab1 (zF rfl Av9) rfl rfl rfl (fun w hm=>Ah2 _ _ _ w) ?_;refine sv ?_;exact zs g22
  ) (fun g22=>by
    have g22':=g22;try simp only [nH] at g22'
    iterate 7 refine Ac9 rfl rfl rfl ?_
    refine sv ?_;exact zs g22
  ) ?_
  refine st ?_
  refine Ae1 (dj:=31) (dp:=39) 8 rfl (fun g31=>by
    have g31':=g31;try simp only [nH] at g31'
    refine su ?_;refine lv (Aa9 rfl hb (by simp) BI9 rfl) ?_;refine Aa0 (Ad7 rfl AT7) rfl rfl rfl ?_;refine sv ?_;exact zs g31
  ) (fun g31=>by
    have g31':=g31;try simp only [nH] at g31'
    iterate 7 refine Ac9 rfl rfl rfl ?_
    refine sv ?_;exact zs g31
  ) ?_
  refine st ?_;refine cn rfl ?_ ?_
  ·intro c0'
   refine su ?_;exact Aa4 (.r1 rfl (.tmp rfl)) (by rw [CG5 (c:=c.pl) c0'])
  intro c0';have hw:within c.slots 1 6=true:=c0'.1.1.1;refine su ?_;refine lu (Aa9 rfl hb (by simp) As7 rfl) ?_;refine Ad6 (c.homes.l.length) (fun k q=>(46,.int .i64 (k:Int))::q) (fun _=>_) (fun _=>[]) (fun k=>homesX c.pl k=true) rfl rfl (zE 46 rfl rfl (zS 1 rfl (zS 44 rfl (zS 45 rfl (Sub.nil _))))) (.cons .here rfl .nil) ?_;intro k kN kI;refine st ?_;refine cn rfl ?_ ?_
  ·intro c1'
   have hk:k < c.homes.l.length:=by omega
   obtain ⟨y,hy⟩:∃ y,c.homes.l[k]=y:=⟨_,rfl⟩;have hy2:c.pl.homes.getD k 0=y:=by (show c.homes.l.getD k 0=y;rw [List.getD_eq_getElem?_getD,List.getElem?_eq_getElem hk,hy];rfl)
   refine st ?_;refine lv (Aa6 rfl rfl Ak6 (by omega) (by omega) (Sl.ptrM hC.homes hk)) ?_;refine lu (Ab2 rfl (fun w hm=>Sl.loadM1 hC.homes (by decide) hm (by simp) Af4 hk (v:=.int .i64 y) (by simp [intC,hy]))) ?_;refine zc (zF rfl Cc6) (fun w hm=>AI3 c bc _ w (hm.old_at hb (by simp)) hw) ?_
   refine Ae1 (dj:=55) (dp:=65) 10 rfl (fun g55=>by
     have g55':=g55;try simp only [nH] at g55'
     refine su ?_;refine lv (Aa9 rfl hb (by simp) As7 rfl) ?_;refine Ab1 (zF rfl By7) rfl rfl rfl (fun w hm=>Aw7 c.homes.l _ _ _ _ y w ((hC.mono0 hm).homes) (by omega)) ?_;refine sv ?_;exact zs g55
   ) (fun g55=>by
     have g55':=g55;try simp only [nH] at g55'
     iterate 9 refine Ac9 rfl rfl rfl ?_
     refine sv ?_;exact zs g55
   ) ?_
   refine st ?_;refine cn rfl ?_ ?_
   ·intro c2'
    refine su ?_;exact Aa4 (.r1 rfl (.tmp rfl)) (by rw [CG4 (c:=c.pl) (show k < c.pl.homes.length from hk) (by rw [AY4,hy2,e0,e1,kI];rcases c2' with h9 | h9 <;> simp [h9])])
   intro c2';refine st ?_;refine lv (Val.add rfl rfl (IntWalk.i64_in _ ⟨by omega,by omega⟩)) ?_;exact Ad2 (by omega) (by rw [AY4,hy2,kI];simpa [e0,e1] using c2') rfl (zE 46 rfl rfl (zS 1 rfl (zS 44 rfl (zS 45 rfl (Sub.nil _))))) (.cons .here rfl .nil)
  intro c1';obtain rfl:k=c.homes.l.length:=by omega
  refine RunC.exit ?_;refine su ?_;refine Ab0 ?_;refine st ?_;refine Ai2 (zF rfl Cd9) rfl rfl rfl (fun w hm=>AD8 w) (fun b67=>?_)
  refine zn (New.alloc Ch4) (fun b5=>?_)
  refine Ab4 (Sto.store rfl rfl .here AC8 rfl rfl) rfl rfl ?_;refine su ?_;refine lv (Aa9 rfl hb (by simp) BI9 rfl) ?_;refine zc (zF rfl Cc7) (fun w hm=>AJ7 c.loans.l _ _ _ _ 175 #[.pointer (some ⟨b5,0,none⟩),.pointer (some ⟨b1,0,none⟩)] (fun l=>!loanV c.pl l) w ((hC.mono0 hm).loans) (by omega) CD8 (fun i h w2 h2=>Bg5 c bc b5 b1 b67 _ w2 (h2.old_at (hm.old_at hb (by simp)) (by simp)) (by omega) hw (h2.old_at (hm.at (.head _)) (by simp)) (h2.old_at (hm.at (.tail _ (.tail _ (.head _)))) (by simp)) (h2.old_at (hm.at (.tail _ (.head _))) (by simp)))) ?_;exact Aa4 (.r1 rfl (.tmp rfl)) (by rw [CG2 (c:=c.pl) c0' kI];rfl)
theorem Bw4 (c:CbA) (W:World) (hC:CbOk W c) (hs:CbS c):Calls Tryz.prog 40 #[c.v] W (TryN lmis (openC c.pl) (fun _ b=>.pointer (some ⟨b,0,none⟩)) (fun _ b=>[(b,cabO c)]) W):=by
  refine Aa2 Tryz.func40 rfl rfl ?_;refine st ?_;refine zn (New.box rfl) (fun b1=>?_)
  refine lv (Val.build (parts:=[(0,.tmp 4)]) rfl Ci3 BL3 rfl) ?_;refine zn (New.box rfl) (fun b6=>?_)
  refine zc (zF rfl CF3) (fun w hm=>AK5 c b6 w (hm.at (.head _)) (hC.mono0 hm) hs) ?_;refine Af5 (zF rfl CL8) rfl rfl rfl (fun w hm=>Bm7 _ _ w) (fun e9 he9=>?_) (fun v9 hv9=>?_)
  ·obtain ⟨er9,rfl⟩:=Ai6 he9
   refine Aa7 ?_;exact Ap8 (by unfold openC;rw [if_neg (by simp [er9])])
  obtain ⟨ok9,rfl⟩:=Am0 hv9;refine su ?_;exact AH2 (a:=()) b6 (.r1 rfl (.tmp rfl)) (by unfold openC;rw [if_pos ok9]) rfl (.cons .here rfl .nil)
theorem BA8 (i:Int) (l:Ln) (x:Bool) (W:World):Calls Tryz.prog 304 #[.agg #[],.int .i64 i,.agg l.cells.toArray,.bool x] W (Pure (.bool true) W):=by
  refine Aa2 Tryz.func304 rfl rfl ?_;refine st ?_;refine zn (New.box rfl) (fun b4=>?_)
  refine zn (New.box rfl) (fun b6=>?_)
  exact Aa4 (.r1 rfl (.tmp rfl)) (by first | rfl | simp)
end Go.Proofs.YtmkdbdbenfbkhaaGreatDoor
namespace Go.Proofs.YtmkdbdbenfbkhaaGreatDoor
open Go Go.Eng
theorem Ct7 (a0:Int) (a1:Int) (a2:Int) (a3:Int) (a4:Int) (c0:Int) (c1:Int) (c2:Int) (c3:Int) (c4:Int):eqF Tryz.prog 8 151 [.int .i64 a0,.int .i64 a1,.int .i64 a2,.int .i64 a3,.int .i64 a4] [.int .i64 c0,.int .i64 c1,.int .i64 c2,.int .i64 c3,.int .i64 c4]=some (decide (a0=c0) && (decide (a1=c1) && (decide (a2=c2) && (decide (a3=c3) && (decide (a4=c4) && true))))):=by kernel_rfl
theorem Ar4:tyB Tryz.prog 151=some (true,5):=by kernel_rfl
instance:Tyc Tryz.prog 151 true 5:=⟨Ar4⟩
theorem BP0:zeroV Tryz.prog 3=some (.int .i64 0):=by kernel_rfl
end Go.Proofs.YtmkdbdbenfbkhaaGreatDoor
namespace Go.Le
open Go Go.Eng Go.Bk Go.RowKit
theorem CH0 {l:Rc} {s:List Int} {m:Int} (h:aFind l s=none∨m < (aFind l s).getD 0):addX l s m=aSet l s m:=by
  unfold addX
  cases hf:aFind l s with
  | none=>rfl
  | some n =>
    rw [hf] at h;exact if_pos (h.resolve_left (by simp))
theorem CP1 {l:Rc} {s:List Int} {m:Int} (h:(aFind l s).isSome=true∧¬ m < (aFind l s).getD 0):addX l s m=l:=by
  unfold addX
  cases hf:aFind l s with
  | none=>rw [hf] at h;cases h.1
  | some n =>
    rw [hf] at h;exact if_neg h.2
def Sz (l:Rc):Prop:=∀ x∈l,x.1.length=5
theorem Sz.rv {l:Rc} (h:Sz l):∀ x∈rv l,x.1.length=5:=fun x hx=>by
  obtain ⟨p,hp,rfl⟩:=List.mem_map.1 hx;exact h p hp
theorem Sz.add {l:Rc} (h:Sz l) {s:List Int} (hs:s.length=5) (m:Int):Sz (addX l s m):=fun x hx=>by
  rcases BF8 hx with hx | rfl
  · exact h x hx
  · exact hs
section
variable {P:Program} {ops:Array Oper} {Q:Exit→Act→World→Prop} {n:Nat} {r:Regs} {ds:List Deferred} {W:World} {chg news:Blks} {rest:List Oper}
variable {d:Nat} {ty:TypeId} {pos:String} {after:Array Edge} {dst:Option Tmp} {gd:Option (Nat×Bool)} {T k E:TypeId} {l:Rc}
abbrev SK (P:Program) (T k E:TypeId):Prop:=KeyOk P T k E ka (fun l=>l.length=5)
theorem Bt0 {x i:Operand} {b:Nat} {a:List Int} (hT:SK P T k E) (hx:rev r x=some (.map (some b))) (hi:rev r i=some (ka a)) (hb:∀ w,Mem W chg news w→w.heap[b]? = some (mapK ka (rv l))) (ha:a.length=5) (hl:Sz l) (hz:zeroV P E=some (.int .i64 0)) :
    Val P r W chg news { dst,op:=.lookup T x i true,type:=ty,pos,after,guard:=gd } (.tuple #[.int .i64 ((aFind l a).getD 0),.bool (aFind l a).isSome]):=by
  have h:=AS1 (dst:=dst) (ty:=ty) (pos:=pos) (after:=after) (gd:=gd) hT hx hi hb ha hl.rv hz;have e1:(kFind (rv l) a).getD (.int .i64 0) = .int .i64 ((aFind l a).getD 0):=by rw [BS7];cases aFind l a <;> rfl
  have e2:(kFind (rv l) a).isSome=(aFind l a).isSome:=by rw [BS7];cases aFind l a <;> rfl
  rw [e1,e2] at h;exact h
theorem Bh5 {x i y:Operand} {b:Nat} {a:List Int} {m:Int} {chg':Blks} (hT:SK P T k E) (hx:rev r x=some (.map (some b))) (hi:rev r i=some (ka a)) (hy:rev r y=some (.int .i64 m)) (ha:a.length=5) (hl:Sz l) (hu:Upd chg b (mapK ka (rv l)) (mapK ka (rv (aSet l a m))) chg') :
    Sto P r W chg news { dst,op:=.mapUpdate T x i y,type:=ty,pos,after,guard:=gd } chg' news:=by
  rw [← Ct0] at hu;exact Bt5 hT hx hi hy ha hl.rv hu
end
end Go.Le
namespace Go.Proofs.YtmkdbdbenfbkhaaGreatDoor
open Go Go.Eng Go.Bk Go.Le Go.RowKit

-- Ct7
-- BP0
theorem AD1:SK Tryz.prog 106 151 3:=KeyOk.arr (n:=5) (by kernel_rfl) (by kernel_rfl) (by kernel_rfl) (fun a b ha hb=>by
  obtain ⟨a0,a1,a2,a3,a4,rfl⟩:=Bu2 ha;obtain ⟨b0,b1,b2,b3,b4,rfl⟩:=Bu2 hb;refine (Ct7 a0 a1 a2 a3 a4 b0 b1 b2 b3 b4).trans (congrArg some ?_)
  rw [Bool.eq_iff_iff];simp)
abbrev rcO (l:Rc):Obj:=mapK ka (rv l)
theorem Bs2 (m:Nat) (l:Rc) (hl:Sz l) (s:List Int) (hs:s.length=5) (n:Int) (W:World) (hb:W.heap[m]? = some (rcO l)):Calls Tryz.prog 117 #[.map (some m),.agg (s.map (Value.int .i64)).toArray,.int .i64 n] W (Turns m (rcO (addX l s n)) (.tuple #[]) W):=by
  have hs':=hs;obtain ⟨x0,x1,x2,x3,x4,rfl⟩:=Bu2 hs;refine Aj0 hb Tryz.func117 rfl rfl ?_;refine csr ?_;refine Ac3 (New.box rfl) rfl rfl rfl (fun b4=>?_)
  refine nsr ?_;refine vp rfl rfl rfl rfl ?_;refine Aa0 (Ab6 rfl (.tail _ (.head _)) Ar4 rfl) rfl rfl rfl ?_;refine Aa0 (Bt0 AD1 (a:=[x0,x1,x2,x3,x4]) rfl rfl (fun w hm=>(hm.chgd _ _ (.head _)).2) hs' hl BP0) rfl rfl rfl ?_
  iterate 5 refine vp rfl rfl rfl rfl ?_
  refine nsr ?_
  iterate 3 refine vp rfl rfl rfl rfl ?_
  refine Ae1 (dj:=16) (dp:=20) 4 rfl (fun g16=>by
    have g16':=g16;try simp only [nH] at g16'
    iterate 4 refine vp rfl rfl rfl rfl ?_
    exact Af6 (Sub.cons rfl (Sub.skip rfl (Sub.skip rfl (Sub.skip rfl (Sub.skip rfl (Ai7 rfl (by rw [g16]) (Ad8 _))))))) (List.Sublist.refl _)
  ) (fun g16=>by
    have g16':=g16;try simp only [nH] at g16'
    iterate 3 refine Ac9 rfl rfl rfl ?_
    refine vp rfl rfl rfl rfl ?_;exact Af6 (Sub.cons rfl (Sub.skip rfl (Sub.skip rfl (Sub.skip rfl (Sub.skip rfl (Ai7 rfl (by rw [g16]) (Ad8 _))))))) (List.Sublist.refl _)
  ) ?_
  refine nnx ?_;refine RunC.cond rfl ?_ ?_
  ·intro c0
   have c0':=c0;clear c0;try simp only [nH] at c0'
   rw [CH0 (by simpa using c0')];refine RunC.region ?_;refine vp rfl rfl rfl rfl ?_;refine Aa0 (Ab6 rfl (.tail _ (.head _)) Ar4 rfl) rfl rfl rfl ?_;refine vp rfl rfl rfl rfl ?_;refine Ab4 (Bh5 AD1 (a:=[x0,x1,x2,x3,x4]) rfl rfl rfl hs' hl .here) rfl rfl ?_;refine RunL.nil ?_;exact Ah7 (chg:=[(m,_)]) (.r0 rfl) (fun _ hm=>⟨rfl,hm.drop⟩)
  intro c0;have c0':=c0;clear c0;try simp only [nH] at c0'
  rw [CP1 (by simpa using c0')];refine RunC.skip ?_;exact Ah7 (chg:=[(m,_)]) (.r0 rfl) (fun _ hm=>⟨rfl,hm.drop⟩)
end Go.Proofs.YtmkdbdbenfbkhaaGreatDoor
namespace Go.Proofs.YtmkdbdbenfbkhaaGreatDoor
open Go Go.Eng
theorem Cb0:Enters Tryz.prog 230:=Aa3 Tryz.func230 (by kernel_rfl) rfl
theorem AC6:zeroB Tryz.prog 151=some [.int .i64 0,.int .i64 0,.int .i64 0,.int .i64 0,.int .i64 0]:=by kernel_rfl
end Go.Proofs.YtmkdbdbenfbkhaaGreatDoor
namespace Go.Le
open Go Go.Eng Go.Bk Go.RowKit
abbrev Sp5 (xs:List (List Int×Bool)):Prop:=∀ x∈xs,x.1.length=5
theorem Cs7 {x:List Int×Bool} (h:x.1.length=5):Sp5 ([]++[x]):=fun y hy=>by rw [List.mem_singleton.1 hy];exact h
theorem Cx6 {c:Cb} {s:List Int} {l:Ln} {k:Nat} {x:List Int×Bool} (hs:s.length=5) (h:x.1.length=5):Sp5 (backL c s l k++[x]):=fun y hy=>by
  rcases List.mem_append.1 hy with hy | hy
  · unfold backL at hy
    obtain ⟨j,_,rfl⟩:=List.mem_map.1 hy;simp [backE,hs]
  · rw [List.mem_singleton.1 hy];exact h
abbrev encT (x:List Int×Bool):List Value:=[ka x.1,.bool x.2]
theorem BR0 {c:Cb} {s:List Int} {l:Ln} (h:l.kind=0):thenX c s l=if s.getD (crd l) 0 = -1 then [] else [(s.set (crd l) (-1),false)]:=if_pos h
theorem BR3 {c:Cb} {s:List Int} {l:Ln} (h:l.kind=1):thenX c s l=if s.getD (crd l) 0 = -1 then backL c s l c.slots.toNat else []:=by
  unfold thenX;rw [if_neg (by omega),if_pos h]
theorem BR1 {c:Cb} {s:List Int} {l:Ln} (h:l.kind=2):thenX c s l=if liesX c.homes.length s l.slot=l.card then [(s,false)] else []:=by
  unfold thenX;rw [if_neg (by omega),if_neg (by omega)]
end Go.Le
namespace Go.Proofs.YtmkdbdbenfbkhaaGreatDoor
open Go Go.Eng Go.Bk Go.Le Go.RowKit

abbrev lstO (s:List Int):Obj:=.cells (s.map (Value.int .i64)).toArray 151 (0,0)
abbrev lnO (l:Ln):Obj:=.cells l.cells.toArray 139 (0,0)
abbrev aV (b:Nat):Value:=.pointer (some ⟨b,0,none⟩)
abbrev cpO (bc:Nat):Obj:=.cells [aV bc].toArray 101 (0,0)
theorem Cx4 (c:Cb) (s:List Int) (hs:s.length=5) (ln:Ln) (hk:ln.kind=0) (hc:0≤ln.card∧ln.card < 5) (b4 b5:Nat) (W0:World):SeqQ Tryz.prog 228 #[aV b4,aV b5] encT (fun _=>[]) [(b4,lstO s),(b5,lnO ln)] lmis (fun xs=>xs=thenX c s ln) Sp5 (fun _ _=>False) 7 W0:=by
  rw [BR0 hk];have hlen:=hs;obtain ⟨x0,x1,x2,x3,x4,hse⟩:=Bu2 hs;obtain ⟨y0,y1,y2,y3,y4,hye⟩:=Bu2 (show (s.set (crd ln) (-1)).length=5 by rw [List.length_set,hs]);have hcs:[Value.int .i64 x0,.int .i64 x1,.int .i64 x2,.int .i64 x3,.int .i64 x4]=s.map (Value.int .i64):=by rw [hse];rfl
  intro X l U I Ix Ip rest w0 u0 hy i0 hm0;have hst:lstO s = .cells [Value.int .i64 x0,.int .i64 x1,.int .i64 x2,.int .i64 x3,.int .i64 x4].toArray 151 (0,0):=by rw [hcs]
  have hm1:Mem W0 [] ((b4,lstO s)::(b5,lnO ln)::(U u0++(rest++[]))) w0:=hm0.pick (Pick.cnt fun x=>by simp only [List.nil_append,List.cons_append,List.count_append,List.count_cons,List.count_nil];omega);rw [hst] at hm1;refine Al2 (vs:=[.func (.yield l) #[] #[],aV b4,aV b5]) hm1 Tryz.func228 rfl rfl ?_ 8
  refine RunCR.seq ?_;refine RunCR.region ?_;refine Ad0 (Val.fieldAddr rfl As0) rfl rfl rfl ?_;refine Ad0 (Aa1 rfl (.tail _ (.head _)) Af4 rfl) rfl rfl rfl ?_;refine Ad0 (Aj1 rfl rfl AG9 (by omega) (by omega)) rfl rfl rfl ?_;refine Ad0 (Ab2 rfl (fun w hm=>Bg8 (hm.at (.head _)) hcs Af4 hc.1 (by omega) rfl)) rfl rfl rfl ?_;refine Ad0 (Aa8 rfl) rfl rfl rfl ?_;refine RunLR.nil ?_;refine RunER.next ?_;refine RunCR.cond rfl ?_ ?_
  ·intro c0
   have c0':=c0;clear c0;try simp only [nH] at c0'
   refine RunCR.seq ?_;refine RunCR.region ?_;refine Ad0 (Val.fieldAddr rfl As0) rfl rfl rfl ?_;refine Ad0 (Aa1 rfl (.tail _ (.head _)) Af4 rfl) rfl rfl rfl ?_;refine Ad0 (Aj1 rfl rfl AG9 (by omega) (by omega)) rfl rfl rfl ?_;refine AF6 (Sto.store (cs:=[Value.int .i64 x0,.int .i64 x1,.int .i64 x2,.int .i64 x3,.int .i64 x4]) (cs':=[Value.int .i64 y0,.int .i64 y1,.int .i64 y2,.int .i64 y3,.int .i64 y4]) rfl rfl .here Af4 rfl (Bl6 (l:=s) hcs (l':=[y0,y1,y2,y3,y4]) rfl (by omega) hye)) rfl rfl ?_;refine RunLR.nil ?_;refine RunER.next ?_;refine RunCR.region ?_;refine Ad0 (Aa8 rfl) rfl rfl rfl ?_;refine Ad0 (Ab6 rfl (.head _) Ar4 rfl) rfl rfl rfl ?_;refine Ap6 (Ae2 rfl rfl) rfl rfl rfl (fun w hm=>(Ah6 (α:=List Int×Bool) (encs:=encT) (eb:=fun _=>[]) (U:=U) (I:=I) (Ix:=Ix) (Ip:=Ip) (pre:=[]) (v:=([y0,y1,y2,y3,y4],false)) (N':=fun x=>(b4,lstO [y0,y1,y2,y3,y4])::(b5,lnO ln)::(U x++(rest++[]))) (tl:=(b4,lstO [y0,y1,y2,y3,y4])::(b5,lnO ln)::rest) (fun x=>(Pick.cnt fun x=>by simp only [nC];omega)) (hy [] ([y0,y1,y2,y3,y4],false) u0 ((b4,lstO [y0,y1,y2,y3,y4])::(b5,lnO ln)::rest) w i0 (Cs7 rfl) (by decide) ((show Mem W0 [] ((b4,lstO [y0,y1,y2,y3,y4])::(b5,lnO ln)::(U u0++(rest++[]))) w from hm).pick (Pick.cnt fun x=>by simp only [nC];omega))))) (fun p14 hp14=>?_) (fun z14 hz14=>?_)
   ·exact fun _ w s=>⟨s.defers,p14.2,s.mem.pick (Pick.cnt fun x=>by simp only [nC];omega),.inr (.inl ⟨p14.1,rfl,hp14⟩)⟩
   refine RunLR.nil ?_;exact Ah7 (chg:=[]) (.r0 rfl) (fun _ hm=>⟨z14.2,hm.pick (Pick.cnt fun x=>by simp only [nC];omega),.inl ⟨_,rfl,hz14.imp (fun h=>⟨_,(by rw [if_neg (by simpa [crd] using c0'),hye];rfl),h.2⟩) (fun h=>h.2)⟩⟩)
  intro c0;have c0':=c0;clear c0;try simp only [nH] at c0'
  refine RunCR.skip ?_;exact Ah7 (chg:=[]) (.r0 rfl) (fun _ hm=>⟨u0,hm.pick (Pick.cnt fun x=>by simp only [nC];omega),.inl ⟨_,rfl,.inl ⟨[],(by rw [if_pos (by simpa [crd] using c0')]),i0⟩⟩⟩)
theorem Cm9 (c:CbA) (bc:Nat) (hl:c.homes.l.length≤5) (s:List Int) (hs:s.length=5) (ln:Ln) (hk:ln.kind=2) (b3 b4 b5:Nat) (W0:World) (hb:W0.heap[bc]? = some (cabO c)):SeqQ Tryz.prog 231 #[aV b3,aV b4,aV b5] encT (fun _=>[]) [(b3,cpO bc),(b4,lstO s),(b5,lnO ln)] lmis (fun xs=>xs=thenX c.pl s ln) Sp5 (fun _ _=>False) 7 W0:=by
  rw [BR1 hk];have hlen:=hs;obtain ⟨x0,x1,x2,x3,x4,hse⟩:=Bu2 hs;have hcs:[Value.int .i64 x0,.int .i64 x1,.int .i64 x2,.int .i64 x3,.int .i64 x4]=s.map (Value.int .i64):=by rw [hse];rfl
  intro X l U I Ix Ip rest w0 u0 hy i0 hm0;have hst:lstO s = .cells [Value.int .i64 x0,.int .i64 x1,.int .i64 x2,.int .i64 x3,.int .i64 x4].toArray 151 (0,0):=by rw [hcs]
  have hm1:Mem W0 [] ((b3,cpO bc)::(b4,lstO s)::(b5,lnO ln)::(U u0++(rest++[]))) w0:=hm0.pick (Pick.cnt fun x=>by simp only [List.nil_append,List.cons_append,List.count_append,List.count_cons,List.count_nil];omega);rw [hst] at hm1;refine Al2 (vs:=[.func (.yield l) #[] #[],aV b3,aV b4,aV b5]) hm1 Tryz.func231 rfl rfl ?_ 8
  refine RunCR.seq ?_;refine AF7 ?_;refine Ae9 7 As5 (.cons .here rfl (.cons .here rfl (.cons .here rfl .nil))) ?_;refine zw 0 ?_;refine zw 1 ?_;refine zw 2 ?_;refine zw 3 ?_;refine zw 5 ?_;refine zw 6 ?_;refine zA 4 ?_;refine Ac4 rfl (zF rfl Cb0) rfl rfl rfl (fun w hm=>(hse ▸ AX7 c bc s ln.slot w (hm.old_at hb (by simp)) hl hlen)) (Aa5 (.cons .here rfl (.cons .here rfl (.cons .here rfl .nil))) (.cons .here rfl (.cons .here rfl (.cons .here rfl .nil))) rfl ?_)
  refine zt ?_;refine zp 7 ?_;refine zd ?_;refine RunER.next ?_;refine RunCR.cond rfl ?_ ?_
  ·intro c0
   have c0':=c0;clear c0;try simp only [nH] at c0'
   refine RunCR.region ?_;refine Ad0 (Aa8 rfl) rfl rfl rfl ?_;refine Ad0 (Ab6 rfl (.tail _ (.head _)) Ar4 rfl) rfl rfl rfl ?_;refine Ap6 (Ae2 rfl rfl) rfl rfl rfl (fun w hm=>(Ah6 (α:=List Int×Bool) (encs:=encT) (eb:=fun _=>[]) (U:=U) (I:=I) (Ix:=Ix) (Ip:=Ip) (pre:=[]) (v:=([x0,x1,x2,x3,x4],false)) (N':=fun x=>(b3,cpO bc)::(b4,lstO [x0,x1,x2,x3,x4])::(b5,lnO ln)::(U x++(rest++[]))) (tl:=(b3,cpO bc)::(b4,lstO [x0,x1,x2,x3,x4])::(b5,lnO ln)::rest) (fun x=>(Pick.cnt fun x=>by simp only [nC];omega)) (hy [] ([x0,x1,x2,x3,x4],false) u0 ((b3,cpO bc)::(b4,lstO [x0,x1,x2,x3,x4])::(b5,lnO ln)::rest) w i0 (Cs7 rfl) (by decide) ((show Mem W0 [] ((b3,cpO bc)::(b4,lstO [x0,x1,x2,x3,x4])::(b5,lnO ln)::(U u0++(rest++[]))) w from hm).pick (Pick.cnt fun x=>by simp only [nC];omega))))) (fun p15 hp15=>?_) (fun z15 hz15=>?_)
   ·exact fun _ w s=>⟨s.defers,p15.2,s.mem.pick (Pick.cnt fun x=>by simp only [nC];omega),.inr (.inl ⟨p15.1,rfl,hp15⟩)⟩
   refine RunLR.nil ?_;exact Ah7 (chg:=[]) (.r0 rfl) (fun _ hm=>⟨z15.2,hm.pick (Pick.cnt fun x=>by simp only [nC];omega),.inl ⟨_,rfl,hz15.imp (fun h=>⟨_,(by rw [hse,if_pos (show liesX c.pl.homes.length [x0,x1,x2,x3,x4] ln.slot=ln.card from c0')];rfl),h.2⟩) (fun h=>h.2)⟩⟩)
  intro c0;have c0':=c0;clear c0;try simp only [nH] at c0'
  refine RunCR.skip ?_;exact Ah7 (chg:=[]) (.r0 rfl) (fun _ hm=>⟨u0,hm.pick (Pick.cnt fun x=>by simp only [nC];omega),.inl ⟨_,rfl,.inl ⟨[],(by rw [hse,if_neg (show ¬ liesX c.pl.homes.length [x0,x1,x2,x3,x4] ln.slot=ln.card from c0')]),i0⟩⟩⟩)
set_option maxHeartbeats 1000000 in
theorem CO6 (c:CbA) (bc:Nat) (hl:c.homes.l.length≤5) (hsl:1≤c.slots∧c.slots≤6) (s:List Int) (hs:s.length=5) (ln:Ln) (hk:ln.kind=1) (hc:0≤ln.card∧ln.card < (c.homes.l.length:Int)) (b3 b4 b5:Nat) (W0:World) (hb:W0.heap[bc]? = some (cabO c)) (hC:CbOk W0 c):SeqQ Tryz.prog 229 #[aV b4,aV b5,aV b3] encT (fun _=>[]) [(b3,cpO bc),(b4,lstO s),(b5,lnO ln)] lmis (fun xs=>xs=thenX c.pl s ln) Sp5 (fun _ _=>False) 7 W0:=by
  rw [BR3 hk];have hlen:=hs;obtain ⟨x0,x1,x2,x3,x4,hse⟩:=Bu2 hs;have hcs:[Value.int .i64 x0,.int .i64 x1,.int .i64 x2,.int .i64 x3,.int .i64 x4]=s.map (Value.int .i64):=by rw [hse];rfl
  have hck:crd ln < c.homes.l.length:=by unfold crd;omega
  have hcc:((crd ln:Nat):Int)=ln.card:=by unfold crd;omega
  intro X l U I Ix Ip rest w0 u0 hy i0 hm0;have hst:lstO s = .cells [Value.int .i64 x0,.int .i64 x1,.int .i64 x2,.int .i64 x3,.int .i64 x4].toArray 151 (0,0):=by rw [hcs]
  have hm1:Mem W0 [] ((b3,cpO bc)::(b4,lstO s)::(b5,lnO ln)::(U u0++(rest++[]))) w0:=hm0.pick (Pick.cnt fun x=>by simp only [List.nil_append,List.cons_append,List.count_append,List.count_cons,List.count_nil];omega);rw [hst] at hm1;refine Al2 (vs:=[.func (.yield l) #[] #[],aV b4,aV b5,aV b3]) hm1 Tryz.func229 rfl rfl ?_ 8
  refine RunCR.scope ?_;refine RunCR.seq ?_;refine RunCR.seq ?_;refine RunCR.region ?_;refine Ad0 (Val.fieldAddr rfl As0) rfl rfl rfl ?_;refine Ad0 (Aa1 rfl (.tail _ (.tail _ (.head _))) Af4 rfl) rfl rfl rfl ?_;refine Ad0 (Aj1 rfl rfl AG9 (by omega) (by omega)) rfl rfl rfl ?_;refine Ad0 (Ab2 rfl (fun w hm=>Bg8 (hm.at (.tail _ (.head _))) hcs Af4 hc.1 (by omega) rfl)) rfl rfl rfl ?_;refine Ad0 (Aa8 rfl) rfl rfl rfl ?_;refine RunLR.nil ?_;refine RunER.next ?_;refine RunCR.cond rfl ?_ ?_
  ·intro c0
   have c0':=c0;clear c0;try simp only [nH] at c0'
   refine RunCR.ret ?_;refine Ab8 ?_;refine Am3 ?_;exact RunE.ret (chg:=[]) (.r0 rfl) (fun _ hm=>⟨u0,hm.pick (Pick.cnt fun x=>by simp only [nC];omega),.inl ⟨_,rfl,.inl ⟨[],(by rw [if_neg (by simpa [crd] using c0')]),i0⟩⟩⟩)
  intro c0;have c0':=c0;clear c0;try simp only [nH] at c0'
  refine RunCR.skip ?_;refine RunER.next ?_;refine RunCR.seq ?_;refine RunCR.label ?_;refine RunER.next ?_;refine RunCR.seq ?_;refine RunCR.region ?_;refine Ad0 (Aa1 rfl (.head _) AV4 rfl) rfl rfl rfl ?_;refine Ad0 (Aa8 rfl) rfl rfl rfl ?_;refine Ad0 (Val.fieldAddr rfl Au3) rfl rfl rfl ?_;refine Ad0 (Val.fieldAddr rfl BG3) rfl rfl rfl ?_;refine Ad0 (Aa9 rfl hb (by simp) Af4 rfl) rfl rfl rfl ?_;refine Ad0 (Aa8 rfl) rfl rfl rfl ?_;refine RunLR.nil ?_;refine RunER.next ?_;refine RunCR.block ?_;refine AS7 (X:=X) (n0:=[(b3,_),(b4,_),(b5,_)]) (c.slots.toNat) (fun k y q=>(17,.int .i64 (k:Int))::q) (fun _ _=>_) (fun k y=>[]) (fun k y=>U y++(rest++[])) (fun k y=>I (backL c.pl s ln k) y) u0 i0 rfl (zE 17 rfl rfl (zS 0 rfl (zS 1 rfl (zS 2 rfl (zS 3 rfl (zS 16 rfl (Sub.nil _))))))) (.cons .here rfl (.cons .here rfl (.cons .here rfl (Pick.same (by rfl))))) ?_;intro k y kN kI;have hbl:=Cf9 c.pl s ln k;refine RunCR.seq ?_;refine RunCR.region ?_;refine Ad0 (Aa8 rfl) rfl rfl rfl ?_;refine RunLR.nil ?_;refine RunER.next ?_;refine RunCR.seq ?_;refine RunCR.cond rfl ?_ ?_
  ·intro c1
   have c1':=c1;clear c1;try simp only [nH] at c1'
   have hkn:k < c.slots.toNat:=by omega
   refine RunCR.skip ?_;refine RunER.next ?_;refine RunCR.seq ?_;refine RunCR.block ?_;refine RunCR.seq ?_;refine RunCR.region ?_;refine Ad0 (Aa8 rfl) rfl rfl rfl ?_;refine Ad0 (Aa8 rfl) rfl rfl rfl ?_;refine RunLR.nil ?_;refine RunER.next ?_;refine RunCR.seq ?_;refine RunCR.seq ?_;refine RunCR.region ?_;refine Ad0 (Aa1 rfl (.head _) AV4 rfl) rfl rfl rfl ?_;refine Ad0 (Ab6 rfl (.tail _ (.head _)) Ar4 rfl) rfl rfl rfl ?_;refine Ad0 (Aa8 rfl) rfl rfl rfl ?_;refine AS3 (zF rfl Cb0) rfl rfl rfl (fun w hm=>(hse ▸ AX7 c bc s (k:Int) w (hm.old_at hb (by simp)) hl hlen)) ?_;refine Ad0 (Aa8 rfl) rfl rfl rfl ?_;refine RunLR.nil ?_;refine RunER.next ?_;refine RunCR.cond rfl ?_ ?_
   ·intro c2
    have c2':=c2;clear c2;try simp only [nH] at c2'
    refine RunCR.exit ?_;refine Ac7 ?_;refine Ab0 ?_;refine RunER.next ?_;refine RunCR.region ?_;refine Ad0 (Val.add rfl rfl (IntWalk.i64_in _ ⟨by omega,by omega⟩)) rfl rfl rfl ?_;refine Ad0 (Aa8 rfl) rfl rfl rfl ?_;refine RunLR.nil ?_;exact Ae7 y (by omega) (by rw [Cf8,if_neg (by rw [hse];exact c2'),List.append_nil];exact kI) rfl (zE 17 rfl rfl (zS 0 rfl (zS 1 rfl (zS 2 rfl (zS 3 rfl (zS 16 rfl (Sub.nil _))))))) (.cons .here rfl (.cons .here rfl (.cons .here rfl (Pick.refl _))))
   intro c2;have c2':=c2;clear c2;try simp only [nH] at c2'
   obtain ⟨y0,y1,y2,y3,y4,hye⟩:=Bu2 (show (s.set (crd ln) (k:Int)).length=5 by rw [List.length_set,hs]);have hbe:backE c.pl s ln k=([y0,y1,y2,y3,y4],!decide ((k:Int)=c.homes.l.getD (crd ln) 0)):=by (unfold backE;rw [hye];rfl)
   refine RunCR.skip ?_;refine RunER.next ?_;refine RunCR.seq ?_;refine RunCR.region ?_;refine Ad0 (Ab6 rfl (.tail _ (.head _)) Ar4 rfl) rfl rfl rfl ?_;refine Cg4 (New.alloc AC6) rfl rfl rfl (fun b6=>?_)
   refine AF6 (Sto.store rfl rfl .here Ar4 rfl rfl) rfl rfl ?_;refine RunLR.nil ?_;refine RunER.next ?_;refine RunCR.seq ?_;refine RunCR.region ?_;refine Ad0 (Val.fieldAddr rfl As0) rfl rfl rfl ?_;refine Ad0 (Aa1 rfl (.tail _ (.tail _ (.tail _ (.head _)))) Af4 rfl) rfl rfl rfl ?_;refine Ad0 (Aa8 rfl) rfl rfl rfl ?_;refine Ad0 (Aj1 rfl rfl AG9 (by omega) (by omega)) rfl rfl rfl ?_;refine AF6 (Sto.store (cs:=[Value.int .i64 x0,.int .i64 x1,.int .i64 x2,.int .i64 x3,.int .i64 x4]) (cs':=[Value.int .i64 y0,.int .i64 y1,.int .i64 y2,.int .i64 y3,.int .i64 y4]) rfl rfl .here Af4 rfl (Bl6 (l:=s) hcs (l':=[y0,y1,y2,y3,y4]) rfl (by omega) hye)) rfl rfl ?_;refine RunLR.nil ?_;refine RunER.next ?_;refine RunCR.seq ?_;refine AS8 13 As5 (.cons .here rfl (.cons .here rfl (.cons .here rfl (.cons .here rfl .nil)))) (by kernel_rfl) (by kernel_rfl) ?_ (hlo:=(fun _ _ h=>by obtain ⟨_,_,h⟩:=h;rcases h with ⟨_,h,_⟩ | ⟨_,h,_⟩ | ⟨_,_,h,_⟩ <;> cases h))
   refine zw 0 ?_;refine zw 1 ?_;refine zw 2 ?_;refine zw 3 ?_;refine zw 4 ?_;refine zw 5 ?_;refine zw 6 ?_;refine zv 7 rfl (Aa9 rfl hb (by simp) As7 rfl) ?_;refine zw 8 ?_;refine zw 9 ?_;refine zv 10 rfl (Aa6 rfl rfl Ak6 (by omega) (by omega) (Sl.ptrM hC.homes hck)) ?_;refine zv 11 rfl (Ab2 rfl (fun w hm=>Sl.loadM1 hC.homes (by decide) hm (by simp) Af4 (i:=crd ln) hck (v:=.int .i64 (c.homes.l.getD (crd ln) 0)) (by simp [intC,hck]))) ?_;refine zw 12 ?_;refine RunA.done (by kernel_rfl) ?_;refine BI2 ?_;refine RunAF.one (i:=13) (by kernel_rfl) ?_;refine RunIF.yieldQ rfl (Ae2 rfl rfl) rfl rfl rfl (fun w hm=>(Ah6 (α:=List Int×Bool) (encs:=encT) (eb:=fun _=>[]) (U:=U) (I:=I) (Ix:=Ix) (Ip:=Ip) (pre:=backL c.pl s ln k) (v:=([y0,y1,y2,y3,y4],!decide ((k:Int)=c.homes.l.getD (crd ln) 0))) (N':=fun x=>(b3,cpO bc)::(b4,lstO [x0,x1,x2,x3,x4])::(b5,lnO ln)::(U x++(rest++[]))) (tl:=(b6,lstO [y0,y1,y2,y3,y4])::(b3,cpO bc)::(b4,lstO [x0,x1,x2,x3,x4])::(b5,lnO ln)::rest) (fun x=>(Pick.cnt fun x=>by simp only [nC];omega)) (hy (backL c.pl s ln k) ([y0,y1,y2,y3,y4],!decide ((k:Int)=c.homes.l.getD (crd ln) 0)) y ((b6,lstO [y0,y1,y2,y3,y4])::(b3,cpO bc)::(b4,lstO [x0,x1,x2,x3,x4])::(b5,lnO ln)::rest) w kI (Cx6 hlen rfl) (by omega) ((show Mem W0 [] ((b6,lstO [y0,y1,y2,y3,y4])::(b3,cpO bc)::(b4,lstO [x0,x1,x2,x3,x4])::(b5,lnO ln)::(U y++(rest++[]))) w from hm).pick (Pick.cnt fun x=>by simp only [nC];omega))))) (fun p43 hp43=>?_) (fun z43 hz43=>(Ab9 ?_))
   ·refine Aa7 ?_
    refine Ad1 ?_;refine Aa7 ?_;refine Aa7 ?_;refine Ad1 ?_;refine Aw4 ?_;exact fun _ w s=>⟨s.defers,p43.2,s.mem.pick (Pick.cnt fun x=>by simp only [nC];omega),.inr (.inl ⟨p43.1,rfl,hp43⟩)⟩
   refine RunAF.one (i:=14) (by kernel_rfl) ?_;refine RunIF.of rfl ?_ (hlo:=(fun _ _ h=>by obtain ⟨_,_,h⟩:=h;rcases h with ⟨_,h,_⟩ | ⟨_,h,_⟩ | ⟨_,_,h,_⟩ <;> cases h))
   refine Ac2 rfl (Aa8 rfl) rfl rfl rfl (Ab9 ?_)
   refine RunAF.done (by kernel_rfl) ?_;refine RunER.next ?_;refine RunCR.cond rfl ?_ ?_
   ·intro c3
    have c3':=c3;clear c3;try simp only [nH] at c3'
    have hno:Ix z43.2:=hz43.elim (fun h=>absurd (h.1.symm.trans c3') (by decide)) (fun h=>h.2);refine RunCR.ret ?_;refine su ?_;refine Am3 ?_;exact RunE.ret (chg:=[]) (.r0 rfl) (fun _ hm=>⟨z43.2,hm.pick (Pick.cnt fun x=>by simp only [nC];omega),.inl ⟨_,rfl,.inr hno⟩⟩)
   intro c3;have c3':=c3;clear c3;try simp only [nH] at c3'
   have hyes:=hz43.resolve_right (fun h=>absurd (h.1.symm.trans c3') (by decide));refine RunCR.skip ?_;refine st ?_;refine RunER.next ?_;refine RunCR.region ?_;refine Ad0 (Val.add rfl rfl (IntWalk.i64_in _ ⟨by omega,by omega⟩)) rfl rfl rfl ?_;refine Ad0 (Aa8 rfl) rfl rfl rfl ?_;refine RunLR.nil ?_;exact Ae7 z43.2 (by omega) (by rw [Cf8,if_pos (by rw [hse];exact c2'),hbe];exact hyes.2) rfl (zE 17 rfl rfl (zS 0 rfl (zS 1 rfl (zS 2 rfl (zS 3 rfl (zS 16 rfl (Sub.nil _))))))) (.cons .here rfl (.cons .here rfl (.cons .here rfl (Pick.refl _))))
  intro c1;have c1':=c1;clear c1;try simp only [nH] at c1'
  obtain hkn:k=c.slots.toNat:=by omega
  refine RunCR.exit ?_;refine su ?_;refine Ab0 ?_;refine AH1 ?_;exact Ah7 (chg:=[]) (.r0 rfl) (fun _ hm=>⟨y,hm.pick (Pick.cnt fun x=>by simp only [nC];omega),.inl ⟨_,rfl,.inl ⟨_,(by rw [if_pos (by simpa [crd] using c0'),hkn];rfl),kI⟩⟩⟩)
end Go.Proofs.YtmkdbdbenfbkhaaGreatDoor
namespace Go.Proofs.YtmkdbdbenfbkhaaGreatDoor
open Go Go.Eng
theorem Cc4:Enters Tryz.prog 177:=Aa3 Tryz.func177 (by kernel_rfl) rfl
theorem Cc3:Enters Tryz.prog 178:=Aa3 Tryz.func178 (by kernel_rfl) rfl
theorem Cc2:Enters Tryz.prog 180:=Aa3 Tryz.func180 (by kernel_rfl) rfl
theorem Cb2:Enters Tryz.prog 228:=Aa3 Tryz.func228 (by kernel_rfl) rfl
theorem Cb1:Enters Tryz.prog 229:=Aa3 Tryz.func229 (by kernel_rfl) rfl
theorem Ca9:Enters Tryz.prog 231:=Aa3 Tryz.func231 (by kernel_rfl) rfl
end Go.Proofs.YtmkdbdbenfbkhaaGreatDoor
namespace Go.Proofs.YtmkdbdbenfbkhaaGreatDoor
open Go Go.Eng Go.Bk Go.Le Go.RowKit

structure ThenZ where
  gf:Nat
  lb:Array Value
  blks:Blks
def ThenOk (c:CbA) (bc:Nat) (s:List Int) (ln:Ln) (z:ThenZ):Prop :=
  Enters Tryz.prog z.gf∧∀ W0:World,W0.heap[bc]? = some (cabO c)→CbOk W0 c→SeqQ Tryz.prog z.gf z.lb encT (fun _=>[]) z.blks lmis (fun xs=>xs=thenX c.pl s ln) Sp5 (fun _ _=>False) 7 W0
abbrev ThenT (c:CbA) (bc:Nat) (s:List Int) (ln:Ln):={ z:ThenZ // ThenOk c bc s ln z }
def thenF (k:Int):Nat:=if k=0 then 177 else if k=1 then 178 else 180
theorem Bv3 (c:CbA) (bc:Nat) (s:List Int) (hs:s.length=5) (ln:Ln) (hk:ln.kind=0) (hc:0≤ln.card∧ln.card < 5) (W:World):Calls Tryz.prog 177 #[aV bc,.agg (s.map (Value.int .i64)).toArray,.agg ln.cells.toArray] W (News (fun z:ThenT c bc s ln=>.func (.func z.1.gf) #[] z.1.lb) (fun z=>z.1.blks++[]) W):=by
  obtain ⟨x0,x1,x2,x3,x4,hse⟩:=Bu2 hs;have hst:s.map (Value.int .i64)=[Value.int .i64 x0,.int .i64 x1,.int .i64 x2,.int .i64 x3,.int .i64 x4]:=by rw [hse];rfl
  have hso:lstO s = .cells [Value.int .i64 x0,.int .i64 x1,.int .i64 x2,.int .i64 x3,.int .i64 x4].toArray 151 (0,0):=congrArg (fun l:List Value=>Obj.cells l.toArray 151 (0,0)) hst;rw [hst];refine Aa2 Tryz.func177 rfl rfl ?_;refine st ?_;refine zn (New.box rfl) (fun b4=>?_)
  refine zn (New.box rfl) (fun b5=>?_)
  exact RunE.ret (chg:=[]) (.r1 rfl (.tmp rfl)) (fun _ hm=>⟨⟨⟨228,#[aV b4,aV b5],[(b4,lstO s),(b5,lnO ln)]⟩,Cb2,fun W0 _ _=>Cx4 c.pl s hs ln hk hc b4 b5 W0⟩,rfl,(show Mem W [] [(b4,lstO s),(b5,lnO ln)] _ from by rw [hso];exact hm.pick (.cons (.there .here) rfl (.cons .here rfl .nil)))⟩)
theorem Bm5 (c:CbA) (bc:Nat) (hl:c.homes.l.length≤5) (s:List Int) (hs:s.length=5) (ln:Ln) (hk:ln.kind=2) (W:World):Calls Tryz.prog 180 #[aV bc,.agg (s.map (Value.int .i64)).toArray,.agg ln.cells.toArray] W (News (fun z:ThenT c bc s ln=>.func (.func z.1.gf) #[] z.1.lb) (fun z=>z.1.blks++[]) W):=by
  obtain ⟨x0,x1,x2,x3,x4,hse⟩:=Bu2 hs;have hst:s.map (Value.int .i64)=[Value.int .i64 x0,.int .i64 x1,.int .i64 x2,.int .i64 x3,.int .i64 x4]:=by rw [hse];rfl
  have hso:lstO s = .cells [Value.int .i64 x0,.int .i64 x1,.int .i64 x2,.int .i64 x3,.int .i64 x4].toArray 151 (0,0):=congrArg (fun l:List Value=>Obj.cells l.toArray 151 (0,0)) hst;rw [hst];refine Aa2 Tryz.func180 rfl rfl ?_;refine st ?_;refine zn (New.box rfl) (fun b3=>?_)
  refine zn (New.box rfl) (fun b4=>?_)
  refine zn (New.box rfl) (fun b5=>?_)
  exact RunE.ret (chg:=[]) (.r1 rfl (.tmp rfl)) (fun _ hm=>⟨⟨⟨231,#[aV b3,aV b4,aV b5],[(b3,cpO bc),(b4,lstO s),(b5,lnO ln)]⟩,Ca9,fun W0 h1 _=>Cm9 c bc hl s hs ln hk b3 b4 b5 W0 h1⟩,rfl,(show Mem W [] [(b3,cpO bc),(b4,lstO s),(b5,lnO ln)] _ from by rw [hso];exact hm.pick (.cons (.there (.there .here)) rfl (.cons (.there .here) rfl (.cons .here rfl .nil))))⟩)
theorem BN6 (c:CbA) (bc:Nat) (hl:c.homes.l.length≤5) (hsl:1≤c.slots∧c.slots≤6) (s:List Int) (hs:s.length=5) (ln:Ln) (hk:ln.kind=1) (hc:0≤ln.card∧ln.card < (c.homes.l.length:Int)) (W:World):Calls Tryz.prog 178 #[aV bc,.agg (s.map (Value.int .i64)).toArray,.agg ln.cells.toArray] W (News (fun z:ThenT c bc s ln=>.func (.func z.1.gf) #[] z.1.lb) (fun z=>z.1.blks++[]) W):=by
  obtain ⟨x0,x1,x2,x3,x4,hse⟩:=Bu2 hs;have hst:s.map (Value.int .i64)=[Value.int .i64 x0,.int .i64 x1,.int .i64 x2,.int .i64 x3,.int .i64 x4]:=by rw [hse];rfl
  have hso:lstO s = .cells [Value.int .i64 x0,.int .i64 x1,.int .i64 x2,.int .i64 x3,.int .i64 x4].toArray 151 (0,0):=congrArg (fun l:List Value=>Obj.cells l.toArray 151 (0,0)) hst;rw [hst];refine Aa2 Tryz.func178 rfl rfl ?_;refine st ?_;refine zn (New.box rfl) (fun b3=>?_)
  refine zn (New.box rfl) (fun b4=>?_)
  refine zn (New.box rfl) (fun b5=>?_)
  exact RunE.ret (chg:=[]) (.r1 rfl (.tmp rfl)) (fun _ hm=>⟨⟨⟨229,#[aV b4,aV b5,aV b3],[(b3,cpO bc),(b4,lstO s),(b5,lnO ln)]⟩,Cb1,fun W0 h1 h2=>CO6 c bc hl hsl s hs ln hk hc b3 b4 b5 W0 h1 h2⟩,rfl,(show Mem W [] [(b3,cpO bc),(b4,lstO s),(b5,lnO ln)] _ from by rw [hso];exact hm.pick (.cons (.there (.there .here)) rfl (.cons (.there .here) rfl (.cons .here rfl .nil))))⟩)
theorem BR4 (k:Int):Enters Tryz.prog (thenF k):=by
  unfold thenF
  split
  · exact Cc4
  · split
    · exact Cc3
    · exact Cc2
-- Cc4
-- Cc3
-- Cc2
-- Cb2
-- Cb1
-- Ca9
theorem BJ2 (c:CbA) (bc:Nat) (hc:CV c.pl) (s:List Int) (hs:s.length=5) (ln:Ln) (hln:loanV c.pl ln=true) (W:World):Calls Tryz.prog (thenF ln.kind) #[aV bc,.agg (s.map (Value.int .i64)).toArray,.agg ln.cells.toArray] W (News (fun z:ThenT c bc s ln=>.func (.func z.1.gf) #[] z.1.lb) (fun z=>z.1.blks++[]) W):=by
  have hl:c.homes.l.length≤5:=hc.few;have e:(c.pl.homes.length:Int)=(c.homes.l.length:Int):=rfl;unfold thenF
  by_cases h0:ln.kind=0
  · rw [if_pos h0]
    rw [Ay9 (.inl h0)] at hln;simp only [within,Bool.and_eq_true,decide_eq_true_eq] at hln;exact Bv3 c bc s hs ln h0 (by omega) W
  · rw [if_neg h0]
    by_cases h1:ln.kind=1
    · rw [if_pos h1]
      rw [Ay9 (.inr h1)] at hln;simp only [within,Bool.and_eq_true,decide_eq_true_eq] at hln;exact BN6 c bc hl hc.slots s hs ln h1 (by omega) W
    · rw [if_neg h1]
      have h2:ln.kind=2:=by
        unfold loanV at hln;rw [if_neg (by omega)] at hln
        split at hln
        · assumption
        · cases hln
      exact Bm5 c bc hl s hs ln h2 W
theorem Cn5 {w:World} {b:Nat} {T:TypeId} {k:Int} (h:w.heap[b]? = some kindsO) (hk:0≤k∧k≤2) (hT:tyB Tryz.prog T=some (false,1)):(loadVar T ⟨b,0 + k.toNat * 2 + 1,none⟩).run Tryz.prog w = .ok (.func (.func (thenF k)) #[] #[]) w:=by
  refine Ah4 hT ?_;rw [Ae6 h]
  have:k=0∨k=1∨k=2:=by omega
  rcases this with rfl | rfl | rfl <;> rfl
theorem Cz2 {c:Cb} {l:Ln} (h:loanV c l=true):0≤l.kind∧l.kind≤2:=by
  cases hw:within l.kind 0 2 with
  | false=>rw [BG0 hw] at h;cases h
  | true=>simpa [within] using hw
end Go.Proofs.YtmkdbdbenfbkhaaGreatDoor
namespace Go.Proofs.YtmkdbdbenfbkhaaGreatDoor
open Go Go.Eng
theorem Cd8:Enters Tryz.prog 117:=Aa3 Tryz.func117 (by kernel_rfl) rfl
theorem Bp7:fieldB Tryz.prog 223 1=some 1:=by kernel_rfl
instance:Fld Tryz.prog 223 1 1:=⟨Bp7⟩
theorem BK8:placesB Tryz.prog 151=some [(0,1),(1,1),(2,1),(3,1),(4,1)]:=by kernel_rfl
theorem Bi9:tyB Tryz.prog 106=some (false,1):=by kernel_rfl
instance:Tyc Tryz.prog 106 false 1:=⟨Bi9⟩
theorem BQ3:tyB Tryz.prog 215=some (false,1):=by kernel_rfl
instance:Tyc Tryz.prog 215 false 1:=⟨BQ3⟩
theorem Cs0:tyB Tryz.prog 221=some (false,1):=by kernel_rfl
instance:Tyc Tryz.prog 221 false 1:=⟨Cs0⟩
theorem Ci2:zeroB Tryz.prog 106=some [.map none]:=by kernel_rfl
end Go.Proofs.YtmkdbdbenfbkhaaGreatDoor
namespace Go.Le
open Go Go.Eng Go.Bk Go.RowKit
def zE:List Int×Int:=([],0)
def pickX (l:Rc) (xs:List Nat):Rc:=xs.map fun i=>l.getD i zE
def accX (c:Cb) (wrong:Int) (ok:Rule) (k:Nat) (ln:Ln) (l:Rc) (xs:List Nat):Rc:=addAll [] (adds c wrong ok k ln (pickX l xs))
theorem BU2 (l:Rc) (xs:List Nat) (i:Nat):pickX l (xs++[i])=pickX l xs++[l.getD i zE]:=by simp [pickX]
theorem Cq8 (c:Cb) (wrong:Int) (ok:Rule) (k:Nat) (ln:Ln) (l:Rc) (xs:List Nat) (i:Nat):accX c wrong ok k ln l (xs++[i])=addAll (accX c wrong ok k ln l xs) (addsP c wrong ok k ln (l.getD i zE)):=by
  unfold accX adds;rw [BU2,List.flatMap_append,AH0];simp
theorem Cl2 {l:Rc} {xs:List Nat} (hn:xs.Nodup) (hlt:∀ i∈xs,i < l.length) (hall:∀ i,i < l.length→i∈xs):(pickX l xs).Perm l:=by
  have h1:xs.Perm (List.range l.length):=(List.perm_ext_iff_of_nodup hn List.nodup_range).2 fun i=>⟨fun h=>List.mem_range.2 (hlt i h),fun h=>hall i (List.mem_range.1 h)⟩
  have h2:pickX l (List.range l.length)=l:=by
    unfold pickX
    apply List.ext_getElem
    · simp
    · intro i h1 h2
      simp [List.getD_eq_getElem?_getD,List.getElem?_eq_getElem h2]
  have h3:=h1.map (fun i=>l.getD i zE);have h4:(pickX l xs).Perm (pickX l (List.range l.length)):=h3;rw [h2] at h4;exact h4
theorem CH2 {c:Cb} {wrong:Int} {ok:Rule} {k:Nat} {ln:Ln} {l:Rc} {xs:List Nat} (hn:xs.Nodup) (hlt:∀ i∈xs,i < l.length) (hall:∀ i,i < l.length→i∈xs):(accX c wrong ok k ln l xs).Perm (stepX c wrong ok k ln l) :=
  Bj3 c wrong ok k ln (Cl2 hn hlt hall)
theorem BT6 {c:Cb} {wrong:Int} {ok:Rule} {k:Nat} {ln:Ln} {l l2:Rc} (hk:c.loans[k]? = some ln) (h:l.Perm (playX c wrong ok k)) (h2:l2.Perm (stepX c wrong ok k ln l)):l2.Perm (playX c wrong ok (k + 1)):=by
  have e:c.loans.getD k zLn=ln:=by rw [List.getD_eq_getElem?_getD,hk];rfl
  show l2.Perm (stepX c wrong ok k (c.loans.getD k zLn) (playX c wrong ok k))
  rw [e];exact h2.trans (Bj3 c wrong ok k ln h)
theorem Cq7 {wrong:Int} {ok:Rule} {i:Nat} {l:Ln} {n:Int} {t:List Int×Bool} (h:n + b2i t.2≤wrong) (h2:ok i l t.2=true):add1 wrong ok i l n t=[(t.1,n + b2i t.2)]:=if_pos ⟨h,h2⟩
theorem CH1 {wrong:Int} {ok:Rule} {i:Nat} {l:Ln} {n:Int} {t:List Int×Bool} (h:¬ (n + b2i t.2≤wrong∧ok i l t.2=true)):add1 wrong ok i l n t=[]:=if_neg h
theorem Sz.addAll {l:Rc} (h:Sz l) {bs:List (List Int×Int)} (ha:∀ a∈bs,a.1.length=5):Sz (addAll l bs):=fun x hx=>by
  rcases AG3 hx with hx | hx
  · exact h x hx
  · exact ha x hx
def RndI (B:Rc) (wrong:Int) (ok:Rule) (k:Nat) (ln:Ln) (n:Int) (pre:List (List Int×Bool)) (x:Rc):Prop:=Sz x∧x=addAll B (pre.flatMap (add1 wrong ok k ln n))
theorem BS9 {B x:Rc} {wrong:Int} {ok:Rule} {k:Nat} {ln:Ln} {n m:Int} {pre:List (List Int×Bool)} {v:List Int×Bool} (h:RndI B wrong ok k ln n pre x) (hv:v.1.length=5) (hm:m=n + b2i v.2) (h1:m≤wrong) (h2:ok k ln v.2=true):RndI B wrong ok k ln n (pre++[v]) (addX x v.1 m):=by
  refine ⟨h.1.add hv m,?_⟩
  rw [List.flatMap_append,AH0,← h.2];simp only [List.flatMap_cons,List.flatMap_nil,List.append_nil];rw [Cq7 (by omega) h2,hm];rfl
theorem Ct2 {B x:Rc} {wrong:Int} {ok:Rule} {k:Nat} {ln:Ln} {n m:Int} {pre:List (List Int×Bool)} {v:List Int×Bool} (h:RndI B wrong ok k ln n pre x) (hm:m=n + b2i v.2) (h1:¬ (m≤wrong∧ok k ln v.2=true)):RndI B wrong ok k ln n (pre++[v]) x:=by
  refine ⟨h.1,?_⟩
  rw [List.flatMap_append,AH0,← h.2];simp only [List.flatMap_cons,List.flatMap_nil,List.append_nil];rw [CH1 (by rw [← hm];exact h1)];rfl
theorem BZ9 {c:Cb} (h:c.homes.length≤5):(firstX c).length=5:=by
  unfold firstX;rw [List.length_append,List.length_replicate];omega
theorem By2 {c:Cb} (h:c.homes.length≤5):c.homes.map (Value.int .i64)++([Value.int .i64 0,.int .i64 0,.int .i64 0,.int .i64 0,.int .i64 0]:List Value).drop c.homes.length=(firstX c).map (Value.int .i64):=by
  unfold firstX;rw [List.map_append,List.map_replicate]
  congr 1
  have:c.homes.length=0∨c.homes.length=1∨c.homes.length=2∨c.homes.length=3∨c.homes.length=4∨c.homes.length=5:=by omega
  rcases this with h | h | h | h | h | h <;> rw [h] <;> rfl
structure CbC (c:CbA):Prop where
  le:c.loans.l.length≤c.loans.c
  nq:c.loans.q=none→c.loans.c=0
  pl:∀ a,c.loans.q=some a→a=⟨a.block,a.off,none⟩
theorem BZ8 (l:List Int):(l.map intC).flatten=l.map (Value.int .i64):=by
  induction l with
  | nil=>rfl
  | cons x l ih=>rw [List.map_cons,List.flatten_cons,ih];rfl
theorem BV3:∀ (n:Nat) (l:List Nat),l.Nodup→(∀ x∈l,x < n)→l.length≤n
  | 0,l,_,h=>by
    cases l with
    | nil=>exact Nat.le_refl _
    | cons x l=>exact absurd (h x (List.mem_cons_self ..)) (by omega)
  | n + 1,l,hn,h=>by
    by_cases hm:n∈l
    · have h1:=List.length_erase_of_mem hm
      have h2:=BV3 n (l.erase n) (hn.erase n) (fun x hx=>by
        rw [hn.mem_erase_iff] at hx
        have:=h x hx.2
        omega)
      omega
    · have h2:=BV3 n l hn (fun x hx=>by
        have:=h x hx
        have:x ≠ n:=fun e=>hm (e ▸ hx)
        omega)
      omega
theorem AX0 {l:List Nat} {i:Nat} (h:l.Nodup) (hi:i ∉ l):(l++[i]).Nodup:=by
  rw [List.nodup_append];exact ⟨h,by simp,fun x hx y hy=>by rw [List.mem_singleton.1 hy];rintro rfl;exact hi hx⟩
theorem BV9 {l:List Nat} {i n:Nat} (h:∀ x∈l,x < n) (hi:i < n):∀ x∈l++[i],x < n:=fun x hx=>by
  rcases List.mem_append.1 hx with hx | hx
  · exact h x hx
  · rw [List.mem_singleton.1 hx];exact hi
theorem CP5 {l:List Nat} {i n:Nat} (h:l.Nodup) (h2:∀ x∈l,x < n) (hi:i < n) (h3:i ∉ l):l.length < n:=by
  have:=BV3 n _ (AX0 h h3) (BV9 h2 hi)
  rw [List.length_append,List.length_singleton] at this;omega
theorem Cz3 (c:Cb) (wrong:Int) (ok:Rule) (k:Nat) (ln:Ln) (l:Rc):([]:List Nat).Nodup∧(∀ i∈([]:List Nat),i < l.length)∧([]:List Nat).length=0∧Sz (accX c wrong ok k ln l []) :=
  ⟨List.nodup_nil,fun _ h=>(by cases h),rfl,fun x hx=>(by cases hx)⟩
theorem Sl.nil_of {W:World} {p:Option Addr} {b o sz:Nat} {xs:List (List Value)} (h:Sl W p b o sz xs) (hp:p=none):xs.length=0:=by
  cases xs with
  | nil=>rfl
  | cons x xs=>have:=h.at' (by simp);rw [hp] at this;cases this
end Go.Le
namespace Go.Proofs.YtmkdbdbenfbkhaaGreatDoor
open Go Go.Eng Go.Bk Go.Le Go.RowKit

abbrev PlayT (c:Cb) (wrong:Int) (ok:Rule) (n:Nat):={ z:Nat×Rc // z.2.Perm (playX c wrong ok n) }
set_option maxHeartbeats 4000000 in
theorem BJ9 (c:CbA) (bc:Nat) (hv:cabV c.pl=true) (n:Nat) (hn:n≤c.loans.l.length) (wrong:Int) (hw:wrong≤12) (Tr:TypeId) (vr:Value) (fr:Nat) (ok:Rule) (hone:isOne (.iface Tr vr)=true)
    (hmeth:∀ w,(method (Tryz.prog.types.size + Made.depth) Tr vr "pairworks/lend.allows").run Tryz.prog w = .ok (fr,vr) w) (hent:Enters Tryz.prog fr)
    (hrule:∀ (i:Nat) (ln:Ln) (b:Bool) (w:World),Calls Tryz.prog fr #[vr,.int .i64 (i:Int),.agg ln.cells.toArray,.bool b] w (Pure (.bool (ok i ln b)) w))
    (W:World) (hb:W.heap[bc]? = some (cabO c)) (hC:CbOk W c) (hCC:CbC c):Calls Tryz.prog 41 #[aV bc,.int .i64 (n:Int),.int .i64 wrong,.iface Tr vr] W (News (fun z:PlayT c.pl wrong ok n=>.map (some z.1.1)) (fun z=>[(z.1.1,rcO z.1.2)]) W):=by
  have hc:=Cp6 hv;have hl5:c.homes.l.length≤5:=hc.few;have hll:c.loans.l.length≤12:=hc.lfew;have hgood:=Bl1 (c:=c.pl) (wrong:=wrong) (ok:=ok) hc.slots.1 hc.few hc.hom hw;obtain ⟨f0,f1,f2,f3,f4,hf⟩:=Bu2 (BZ9 (c:=c.pl) hc.few);have hfc:c.homes.l.map (Value.int .i64)++([Value.int .i64 0,.int .i64 0,.int .i64 0,.int .i64 0,.int .i64 0]:List Value).drop c.homes.l.length=[Value.int .i64 f0,.int .i64 f1,.int .i64 f2,.int .i64 f3,.int .i64 f4]:=(By2 (c:=c.pl) hc.few).trans (by rw [hf];rfl);refine Ai9 Tryz.func41 rfl rfl ?_;refine csr ?_;refine Ac3 (New.box rfl) rfl rfl rfl (fun b6=>?_)
  refine Ac3 (New.box rfl) rfl rfl rfl (fun b7=>?_)
  refine vp rfl rfl rfl rfl ?_;refine nsr ?_;refine Aa0 (Val.build (parts:=[]) rfl AC6 BK8 rfl) rfl rfl rfl ?_;refine Ac3 (New.alloc AC6) rfl rfl rfl (fun b9=>?_)
  refine Ab4 (Sto.store rfl rfl .here Ar4 rfl rfl) rfl rfl ?_;refine nnx ?_;refine RunC.seq ?_;refine Az7 6 As5 (.cons .here rfl (.cons .here rfl (.cons .here rfl .nil))) ?_;refine va 0 rfl (Bs9 rfl AG9) rfl rfl rfl (.cons .here rfl (.cons .here rfl (.cons .here rfl .nil))) rfl ?_;refine va 1 rfl (Aa8 rfl) rfl rfl rfl (.cons .here rfl (.cons .here rfl (.cons .here rfl .nil))) rfl ?_;refine va 2 rfl (Aa8 rfl) rfl rfl rfl (.cons .here rfl (.cons .here rfl (.cons .here rfl .nil))) rfl ?_;refine va 3 rfl (Val.fieldAddr rfl Au3) rfl rfl rfl (.cons .here rfl (.cons .here rfl (.cons .here rfl .nil))) rfl ?_;refine va 4 rfl (Val.fieldAddr rfl Be1) rfl rfl rfl (.cons .here rfl (.cons .here rfl (.cons .here rfl .nil))) rfl ?_;refine va 5 rfl (Aa9 rfl hb (by simp) As7 rfl) rfl rfl rfl (.cons .here rfl (.cons .here rfl (.cons .here rfl .nil))) rfl ?_;refine Af3 (by kernel_rfl) ?_;refine RunB.one (i:=6) (by kernel_rfl) ?_;refine BN9 (cs:=(c.homes.l.map (Value.int .i64))) (cs':=[Value.int .i64 f0,.int .i64 f1,.int .i64 f2,.int .i64 f3,.int .i64 f4]) rfl rfl rfl Ak6 (by omega) (fun h=>by have:=Sl.nil_of hC.homes h;simpa using this) .here (by simp) rfl (fun w hm j v h=>by obtain ⟨ad,h1,h2⟩:=((hC.mono0 hm).homes).flat (by decide) j v (by rw [BZ8];exact h);exact ⟨ad,h1,h2⟩) (fun v hv=>by obtain ⟨x,_,rfl⟩:=List.mem_map.1 hv;rfl) hfc rfl (Ab5 ?_)
  refine RunB.done (by kernel_rfl) ?_;refine Au9 ?_;refine RunE.next ?_;refine csr ?_;refine Ac3 (Ay2 (K:=List Int) (kv:=ka)) rfl rfl rfl (fun b28=>?_)
  refine Aa0 (Ab6 rfl (.tail _ (.head _)) Ar4 rfl) rfl rfl rfl ?_;refine Ab4 (Bt4 AD1 (a:=[f0,f1,f2,f3,f4]) (l:=[]) rfl rfl rfl rfl (by simp) .here) rfl rfl ?_;refine vp rfl rfl rfl rfl ?_;refine vp rfl rfl rfl rfl ?_;refine nsr ?_;refine Ai2 (Ab7 rfl Cd9) rfl rfl rfl (fun w hm=>AD8 w) (fun b31=>?_)
  refine vp rfl rfl rfl rfl ?_;refine nnx ?_;refine RunC.seq ?_;refine csr ?_;refine vp rfl rfl rfl rfl ?_;refine vp rfl rfl rfl rfl ?_;refine Aa0 (Val.fieldAddr rfl Au3) rfl rfl rfl ?_;refine Aa0 (Val.fieldAddr rfl AL6) rfl rfl rfl ?_;refine Aa0 (Aa9 rfl hb (by simp) BI9 rfl) rfl rfl rfl ?_;refine vp rfl rfl rfl rfl ?_;refine Aa0 (AK0 rfl rfl AT7 (j:=n) (by have:=hCC.le;omega) hCC.nq hCC.pl) rfl rfl rfl ?_;refine Aa0 (Ad7 rfl AT7) rfl rfl rfl ?_;refine vp rfl rfl rfl rfl ?_;refine nnx ?_;refine RunC.block ?_;refine Ak3 (Ad8 _) (news':=[(b6,.cells (cellsL (.int .i64 wrong)).toArray 3 (0,0)),(b7,.cells (cellsL (.iface Tr vr)).toArray 215 (0,0)),(b31,kindsO),(b28,rcO [([f0,f1,f2,f3,f4],0)])]++([])) (.cons (.there (.there (.there (.there .here)))) rfl (.cons (.there (.there (.there .here))) rfl (.cons .here rfl (.cons .here rfl .nil)))) ?_;refine Ba4 (X:=Nat×Rc×List Nat) (fun k y=>y.2.2.map markD++[]) (n0:=[(b6,.cells (cellsL (.int .i64 wrong)).toArray 3 (0,0)),(b7,.cells (cellsL (.iface Tr vr)).toArray 215 (0,0)),(b31,kindsO)]) (n) (fun k y q=>(40,.int .i64 (k:Int))::(10,.map (some y.1))::q) (fun _ _=>_) (fun k y=>[]) (fun k y=>(y.1,rcO y.2.1)::y.2.2.map markB) (fun k y=>y.2.1.Perm (playX c.pl wrong ok k)) (b28,[([f0,f1,f2,f3,f4],0)],[]) rfl (by rw [← hf];exact List.Perm.refl _) rfl (Ac8 (t:=40) rfl rfl (Ac8 (t:=10) rfl rfl (Sub.cons (t:=0) rfl (Sub.cons (t:=6) rfl (Sub.cons (t:=7) rfl (Sub.cons (t:=11) rfl (Sub.cons (t:=38) rfl (Sub.cons (t:=39) rfl (Sub.nil _))))))))) (Pick.cnt fun x=>by simp only [nC,List.map_nil,List.map_cons,markB,dfrO];omega) ?_;intro k y kN kI;obtain ⟨m,l,ds⟩:=y;dsimp only at kI ⊢;have hgd:∀ p∈l,Gd c.pl p:=fun p hp=>hgood k p (kI.mem_iff.1 hp)
  refine csr ?_;refine vp rfl rfl rfl rfl ?_;refine nnx ?_;refine RunC.seq ?_;refine RunC.cond rfl ?_ ?_
  ·intro c0
   have c0':=c0;clear c0;try simp only [nH] at c0'
   have hkn:k < n:=by omega
   have hkl:k < c.loans.l.length:=by omega
   obtain ⟨ln,hle⟩:∃ ln,c.loans.l[k]=ln:=⟨_,rfl⟩;have hlk:c.pl.loans[k]? = some ln:=by (rw [show c.pl.loans=c.loans.l from rfl,List.getElem?_eq_getElem hkl,hle])
   have hln:=hc.loans ln (hle ▸ List.getElem_mem hkl);have hkin:=Cz2 hln;refine RunC.skip ?_;refine RunE.next ?_;refine RunC.seq ?_;refine RunC.block ?_;refine csr ?_;refine vp rfl rfl rfl rfl ?_;refine Aa0 (Aa6 rfl rfl AT7 (by omega) (by omega) (Sl.ptrM hC.loans hkl)) rfl rfl rfl ?_;refine Aa0 (Ab2 rfl (fun w hm=>hC.loans.loadX (by decide) hm (by simp) As9 hkl hle)) rfl rfl rfl ?_;refine Ac3 (New.alloc Ap0) rfl rfl rfl (fun b12=>?_)
   refine Ac3 (New.alloc Ba8) rfl rfl rfl (fun b13=>?_)
   refine Ab4 (Sto.store rfl rfl (.there .here) Af4 rfl rfl) rfl rfl ?_;refine Ab4 (Sto.store rfl rfl .here As9 rfl rfl) rfl rfl ?_;refine nsr ?_;refine Ac3 (Ay2 (K:=List Int) (kv:=ka)) rfl rfl rfl (fun b45=>?_)
   refine Ac3 (New.alloc Ci2) rfl rfl rfl (fun b14=>?_)
   refine Ab4 (Sto.store rfl rfl .here Bi9 rfl rfl) rfl rfl ?_;refine nnx ?_;refine RunC.seq ?_;refine csr ?_;refine vp rfl rfl rfl rfl ?_;refine Ac3 (BO4 AD1 rfl (fun w hm=>hm.at (.tail _ (.tail _ (.tail _ (.tail _ (.tail _ (.tail _ (.tail _ (.head _)))))))))) rfl rfl rfl (fun b47=>?_)
   refine nnx ?_;refine RunC.block ?_;refine Ak3 (Ad8 _) (news':=[(b45,rcO (accX c.pl wrong ok k ln l [])),(b47,itK m (rv l) []),(b14,.cells [.map (some b45)].toArray 106 (0,0)),(b13,lnO ln),(b12,.cells [.int .i64 (k:Int)].toArray 3 (0,0)),(b6,.cells (cellsL (.int .i64 wrong)).toArray 3 (0,0)),(b7,.cells (cellsL (.iface Tr vr)).toArray 215 (0,0)),(b31,kindsO),(m,rcO l)]++(ds.map markB)) (.cons (.there (.there .here)) rfl (.cons .here rfl (.cons .here rfl (.cons .here rfl (.cons .here rfl (.cons .here rfl (.cons .here rfl (.cons .here rfl (.cons .here rfl (Pick.refl _)))))))))) ?_;refine Ba4 (X:=List Nat×List Nat) (fun j q=>q.2.map markD++[]) (n0:=[(b14,.cells [.map (some b45)].toArray 106 (0,0)),(b13,lnO ln),(b12,.cells [.int .i64 (k:Int)].toArray 3 (0,0)),(b6,.cells (cellsL (.int .i64 wrong)).toArray 3 (0,0)),(b7,.cells (cellsL (.iface Tr vr)).toArray 215 (0,0)),(b31,kindsO),(m,rcO l)]) (l.length) (fun j q q=>q) (fun _ _=>_) (fun j q=>[(b45,rcO (accX c.pl wrong ok k ln l q.1)),(b47,itK m (rv l) q.1)]) (fun j q=>q.2.map markB) (fun j q=>q.1.Nodup∧(∀ i∈q.1,i < l.length)∧q.1.length=j∧Sz (accX c.pl wrong ok k ln l q.1)) ([],ds) rfl (Cz3 c.pl wrong ok k ln l) rfl (Sub.cons (t:=0) rfl (Sub.cons (t:=6) rfl (Sub.cons (t:=7) rfl (Sub.cons (t:=11) rfl (Sub.cons (t:=12) rfl (Sub.cons (t:=13) rfl (Sub.cons (t:=14) rfl (Sub.cons (t:=38) rfl (Sub.cons (t:=39) rfl (Sub.cons (t:=40) rfl (Sub.cons (t:=47) rfl (Sub.nil _)))))))))))) (Pick.cnt fun x=>by simp only [nC,List.map_nil,List.map_cons,markB,dfrO];omega) ?_;intro j q jN jI;obtain ⟨us,dsi⟩:=q;obtain ⟨hxn,hxl,hxj,hsz⟩:=jI;dsimp only at hxn hxl hxj hsz ⊢;refine csr ?_;refine BN8 rfl (fun w hm=>hm.at (.tail _ (.tail _ (.tail _ (.tail _ (.tail _ (.tail _ (.tail _ (.tail _ (.head _)))))))))) (fun _=>(.there .here)) rfl (fun i48 hi48 hx48=>?_) (fun hx48=>?_)
   ·have hil:i48 < l.length:=by (rw [← BE1];exact hi48)
    obtain ⟨p,hp⟩:∃ p,l[i48]=p:=⟨_,rfl⟩;have hg:=hgd p (hp ▸ List.getElem_mem hil);obtain ⟨s,n0⟩:=p;obtain ⟨x0,x1,x2,x3,x4,hse⟩:=Bu2 hg.len;dsimp only at hse;have hn0:=hg.ge;have hn1:=hg.le;dsimp only at hn0 hn1;refine vp rfl rfl rfl rfl ?_;refine nnx ?_;refine RunC.seq ?_;refine AV1 rfl ?_;refine RunC.skip ?_;refine RunE.next ?_;refine RunC.block ?_;refine csr ?_;refine Aa0 (BN7 (l:=rv l) (v:=.tuple #[.agg #[.int .i64 x0,.int .i64 x1,.int .i64 x2,.int .i64 x3,.int .i64 x4],.int .i64 n0]) rfl (fun w hm=>hm.at (.tail _ (.head _))) (fun w hm=>hm.at (.tail _ (.tail _ (.tail _ (.tail _ (.tail _ (.tail _ (.tail _ (.tail _ (.head _)))))))))) hi48 (by simp [rv,hp,ka,hse])) rfl rfl rfl ?_;refine vp rfl rfl rfl rfl ?_;refine vp rfl rfl rfl rfl ?_;refine Ac3 (New.alloc AC6) rfl rfl rfl (fun b15=>?_)
    refine Ac3 (New.alloc Ap0) rfl rfl rfl (fun b16=>?_)
    refine Ab4 (Sto.store rfl rfl (.there .here) Ar4 rfl rfl) rfl rfl ?_;refine Ab4 (Sto.store rfl rfl .here Af4 rfl rfl) rfl rfl ?_;refine nnx ?_;refine RunC.seq ?_;refine Az7 9 As5 (.cons .here rfl (.cons .here rfl (.cons .here rfl (.cons .here rfl (.cons .here rfl (.cons .here rfl (.cons .here rfl (.cons .here rfl (.cons .here rfl (.cons .here rfl (.cons .here rfl .nil))))))))))) ?_;refine va 0 rfl (Aa8 rfl) rfl rfl rfl (.cons .here rfl (.cons .here rfl (.cons .here rfl (.cons .here rfl (.cons .here rfl (.cons .here rfl (.cons .here rfl (.cons .here rfl (.cons .here rfl (.cons .here rfl (.cons .here rfl .nil))))))))))) rfl ?_;refine va 1 rfl (Val.fieldAddr rfl An9) rfl rfl rfl (.cons .here rfl (.cons .here rfl (.cons .here rfl (.cons .here rfl (.cons .here rfl (.cons .here rfl (.cons .here rfl (.cons .here rfl (.cons .here rfl (.cons .here rfl (.cons .here rfl .nil))))))))))) rfl ?_;refine va 2 rfl (Aa1 rfl (.tail _ (.tail _ (.tail _ (.tail _ (.tail _ (.head _)))))) Af4 rfl) rfl rfl rfl (.cons .here rfl (.cons .here rfl (.cons .here rfl (.cons .here rfl (.cons .here rfl (.cons .here rfl (.cons .here rfl (.cons .here rfl (.cons .here rfl (.cons .here rfl (.cons .here rfl .nil))))))))))) rfl ?_;refine va 3 rfl (Ag8 rfl rfl AA4 (by omega) (by omega)) rfl rfl rfl (.cons .here rfl (.cons .here rfl (.cons .here rfl (.cons .here rfl (.cons .here rfl (.cons .here rfl (.cons .here rfl (.cons .here rfl (.cons .here rfl (.cons .here rfl (.cons .here rfl .nil))))))))))) rfl ?_;refine va 4 rfl (Val.fieldAddr rfl Bp7) rfl rfl rfl (.cons .here rfl (.cons .here rfl (.cons .here rfl (.cons .here rfl (.cons .here rfl (.cons .here rfl (.cons .here rfl (.cons .here rfl (.cons .here rfl (.cons .here rfl (.cons .here rfl .nil))))))))))) rfl ?_;refine va 5 rfl (Ab2 rfl (fun w hm=>Cn5 (hm.at (.tail _ (.tail _ (.tail _ (.tail _ (.tail _ (.tail _ (.tail _ (.tail _ (.tail _ (.head _))))))))))) hkin Cs0)) rfl rfl rfl (.cons .here rfl (.cons .here rfl (.cons .here rfl (.cons .here rfl (.cons .here rfl (.cons .here rfl (.cons .here rfl (.cons .here rfl (.cons .here rfl (.cons .here rfl (.cons .here rfl .nil))))))))))) rfl ?_;refine va 6 rfl (Aa8 rfl) rfl rfl rfl (.cons .here rfl (.cons .here rfl (.cons .here rfl (.cons .here rfl (.cons .here rfl (.cons .here rfl (.cons .here rfl (.cons .here rfl (.cons .here rfl (.cons .here rfl (.cons .here rfl .nil))))))))))) rfl ?_;refine va 7 rfl (Ab6 rfl (.tail _ (.head _)) Ar4 rfl) rfl rfl rfl (.cons .here rfl (.cons .here rfl (.cons .here rfl (.cons .here rfl (.cons .here rfl (.cons .here rfl (.cons .here rfl (.cons .here rfl (.cons .here rfl (.cons .here rfl (.cons .here rfl .nil))))))))))) rfl ?_;refine va 8 rfl (Ab6 rfl (.tail _ (.tail _ (.tail _ (.tail _ (.tail _ (.head _)))))) As9 rfl) rfl rfl rfl (.cons .here rfl (.cons .here rfl (.cons .here rfl (.cons .here rfl (.cons .here rfl (.cons .here rfl (.cons .here rfl (.cons .here rfl (.cons .here rfl (.cons .here rfl (.cons .here rfl .nil))))))))))) rfl ?_;refine Af3 (by kernel_rfl) ?_;refine RunB.one (i:=9) (by kernel_rfl) ?_;refine Ae4 [(b16,_),(b15,_),(b45,_),(b47,_),(b14,_),(b13,_),(b12,_),(b6,_),(b7,_),(b31,_),(m,_)] _ rfl rfl (Ac1 rfl rfl (BR4 ln.kind)) rfl rfl rfl (fun w hm=>(by rw [show #[Value.int .i64 x0,.int .i64 x1,.int .i64 x2,.int .i64 x3,.int .i64 x4]=(s.map (Value.int .i64)).toArray from by rw [hse];rfl];exact BJ2 c bc hc s hg.len ln hln w)) (fun z62=>(Ab5 ?_))
    obtain ⟨⟨gf62,lb62,it62⟩,he62,hsq62⟩:=z62;dsimp only;refine RunB.done (by kernel_rfl) ?_;refine Au9 ?_;refine RunE.next ?_;refine RunC.block ?_;refine Ak3 (Ad8 _) (news':=[(b45,rcO (accX c.pl wrong ok k ln l us)),(b6,.cells (cellsL (.int .i64 wrong)).toArray 3 (0,0)),(b7,.cells (cellsL (.iface Tr vr)).toArray 215 (0,0)),(b12,.cells [.int .i64 (k:Int)].toArray 3 (0,0)),(b13,lnO ln),(b14,.cells [.map (some b45)].toArray 106 (0,0)),(b16,.cells [.int .i64 n0].toArray 3 (0,0)),(m,rcO l),(b47,itK m (rv l) (us++[i48])),(b31,kindsO)]++(it62++dsi.map markB)) (.cons (.there (.there .here)) rfl (.cons (.there (.there (.there (.there (.there (.there .here)))))) rfl (.cons (.there (.there (.there (.there (.there (.there .here)))))) rfl (.cons (.there (.there (.there (.there (.there .here))))) rfl (.cons (.there (.there (.there (.there .here)))) rfl (.cons (.there (.there (.there .here))) rfl (.cons .here rfl (.cons (.there (.there (.there .here))) rfl (.cons (.there .here) rfl (.cons (.there .here) rfl (Pick.skip (Pick.refl _)))))))))))) ?_;refine AC4 (α:=List Int×Bool) (X:=Rc) (Y:=Nat) (encs:=encT) (fun v y q=>(17,aV y)::(18,.bool v.2)::q) (fun v y=>[(y,lstO v.1)]) (fun x=>[(b45,rcO x),(b6,.cells (cellsL (.int .i64 wrong)).toArray 3 (0,0)),(b7,.cells (cellsL (.iface Tr vr)).toArray 215 (0,0)),(b12,.cells [.int .i64 (k:Int)].toArray 3 (0,0)),(b13,lnO ln),(b14,.cells [.map (some b45)].toArray 106 (0,0)),(b16,.cells [.int .i64 n0].toArray 3 (0,0))]) (RndI (accX c.pl wrong ok k ln l us) wrong ok k ln n0) (fun _ _=>False) (accX c.pl wrong ok k ln l us) ⟨hsz,rfl⟩ ((m,rcO l)::(b47,itK m (rv l) (us++[i48]))::(b31,kindsO)::dsi.map markB) (Sub.cons (t:=6) rfl (Sub.cons (t:=7) rfl (Sub.cons (t:=12) rfl (Sub.cons (t:=13) rfl (Sub.cons (t:=14) rfl (Sub.cons (t:=16) rfl (Sub.nil _))))))) (Pick.cnt fun x=>by simp only [nC,List.map_nil,List.map_cons,markB,dfrO];omega) (fun _=>rfl) rfl rfl he62 ((hsq62 W hb hC)) ?_ ?_ ?_ ?_
    ·intro l D ob pre v x tl hI hsp
     obtain ⟨v1,v2⟩:=v;obtain ⟨z0,z1,z2,z3,z4,hz⟩:=Bu2 (hsp (v1,v2) (by simp));dsimp only at hz ⊢;subst hz;refine RunCR.seq ?_;refine Ad4 ?_;refine Ac3 (New.alloc AC6) rfl rfl rfl (fun b17=>?_)
     refine Ab4 (Sto.store rfl rfl .here Ar4 rfl rfl) rfl rfl ?_;refine RunL.nil ?_;refine RunER.next ?_;refine Ad4 ?_;refine vp rfl rfl rfl rfl ?_;refine RunL.nil ?_;exact Ax9 b17 (Ac8 (t:=17) rfl rfl (Ac8 (t:=18) rfl rfl (Sub.cons (t:=6) rfl (Sub.cons (t:=7) rfl (Sub.cons (t:=12) rfl (Sub.cons (t:=13) rfl (Sub.cons (t:=14) rfl (Sub.cons (t:=16) rfl (Sub.nil _))))))))) (.cons .here rfl (Pick.refl _))
    ·intro l D ob pre v y x tl hI hsp hlen
     obtain ⟨v1,v2⟩:=v;obtain ⟨z0,z1,z2,z3,z4,hz⟩:=Bu2 (hsp (v1,v2) (by simp));dsimp only at hz ⊢;subst hz;refine RunCR.block ?_;refine RunCR.seq ?_;refine Ad4 ?_;refine Aa0 (Aa1 rfl (.tail _ (.tail _ (.tail _ (.tail _ (.tail _ (.tail _ (.tail _ (.tail _ (.tail _ (.head _)))))))))) Af4 rfl) rfl rfl rfl ?_;refine vp rfl rfl rfl rfl ?_;refine RunL.nil ?_;refine RunER.next ?_;refine RunCR.seq ?_;refine RunCR.seq ?_;refine Ad4 ?_;refine vp rfl rfl rfl rfl ?_;refine RunL.nil ?_;refine RunER.next ?_;refine RunCR.cond rfl ?_ ?_
     ·intro c2
      have c2':=c2;clear c2;try simp only [nH] at c2'
      subst c2';refine Ad4 ?_;refine vp rfl rfl rfl rfl ?_;refine Aa0 (Val.add rfl rfl (IntWalk.i64_in _ ⟨by omega,by omega⟩)) rfl rfl rfl ?_;refine vp rfl rfl rfl rfl ?_;refine RunL.nil ?_;refine RunER.next ?_;refine RunCR.seq ?_;refine Ad4 ?_;refine vp rfl rfl rfl rfl ?_;refine Aa0 (Aa1 rfl (.tail _ (.tail _ (.tail _ (.tail _ (.head _))))) Af4 rfl) rfl rfl rfl ?_;refine vp rfl rfl rfl rfl ?_;refine vp rfl rfl rfl rfl ?_
      refine Ab3 (dj:=72) (dp:=78) 6 rfl (fun g72=>by
        have g72':=g72;try simp only [nH] at g72'
        refine Aa0 (Aa1 rfl (.tail _ (.tail _ (.tail _ (.tail _ (.tail _ (.head _)))))) BQ3 rfl) rfl rfl rfl ?_;refine Aa0 (Aa1 rfl (.tail _ (.tail _ (.tail _ (.tail _ (.tail _ (.tail _ (.head _))))))) Af4 rfl) rfl rfl rfl ?_;refine Aa0 (Ab6 rfl (.tail _ (.tail _ (.tail _ (.tail _ (.tail _ (.tail _ (.tail _ (.head _)))))))) As9 rfl) rfl rfl rfl ?_;refine vp rfl rfl rfl rfl ?_;refine Ab1 (Aq8 rfl rfl hmeth hent) rfl rfl rfl (fun w hm=>hrule k ln _ w) ?_;refine vp rfl rfl rfl rfl ?_;exact Af6 (Sub.cons rfl (Sub.skip rfl (Sub.skip rfl (Sub.skip rfl (Sub.skip rfl (Sub.skip rfl (Sub.skip rfl (Ai7 rfl (by rw [g72]) (Ad8 _))))))))) (List.Sublist.refl _)
      ) (fun g72=>by
        have g72':=g72;try simp only [nH] at g72'
        iterate 5 refine Ac9 rfl rfl rfl ?_
        refine vp rfl rfl rfl rfl ?_;exact Af6 (Sub.cons rfl (Sub.skip rfl (Sub.skip rfl (Sub.skip rfl (Sub.skip rfl (Sub.skip rfl (Sub.skip rfl (Ai7 rfl (by rw [g72]) (Ad8 _))))))))) (List.Sublist.refl _)
      ) ?_
      refine RunL.nil ?_;refine RunER.next ?_;refine RunCR.cond rfl ?_ ?_
      ·intro c3
       have c3':=c3;clear c3;try simp only [nH] at c3'
       refine Ad4 ?_;refine Aa0 (Aa1 rfl (.tail _ (.tail _ (.tail _ (.tail _ (.tail _ (.tail _ (.tail _ (.tail _ (.head _))))))))) Bi9 rfl) rfl rfl rfl ?_;refine Aa0 (Ab6 rfl (.head _) Ar4 rfl) rfl rfl rfl ?_;refine vp rfl rfl rfl rfl ?_;refine AZ7 (Ab7 rfl Cd8) rfl rfl rfl (.there (.there (.there .here))) (fun w hm=>Bs2 b45 x hI.1 [z0,z1,z2,z3,z4] rfl _ w (hm.at (.tail _ (.tail _ (.tail _ (.head _)))))) ?_;refine RunL.nil ?_;refine Ac0 ?_;exact Af9 (addX x [z0,z1,z2,z3,z4] (n0 + 1)) (BS9 (v:=([z0,z1,z2,z3,z4],true)) (m:=n0 + 1) hI rfl (by show n0 + 1=n0 + 1;omega) c3'.1 c3'.2) (Pick.cnt fun x=>by simp only [nC,List.map_nil,List.map_cons,markB,dfrO];omega)
      intro c3;have c3':=c3;clear c3;try simp only [nH] at c3'
      refine RunCR.skip ?_;refine Ac0 ?_;exact Af9 x (Ct2 (v:=([z0,z1,z2,z3,z4],true)) (m:=n0 + 1) hI (by show n0 + 1=n0 + 1;omega) (fun h9=>c3'.elim (fun h8=>absurd h9.1 (by omega)) (fun h8=>by rw [show ok k ln true=false from h8] at h9;cases h9.2))) (Pick.cnt fun x=>by simp only [nC,List.map_nil,List.map_cons,markB,dfrO];omega)
     intro c2;have c2':=c2;clear c2;try simp only [nH] at c2'
     subst c2';refine RunCR.skip ?_;refine RunER.next ?_;refine RunCR.seq ?_;refine Ad4 ?_;refine vp rfl rfl rfl rfl ?_;refine Aa0 (Aa1 rfl (.tail _ (.tail _ (.tail _ (.tail _ (.head _))))) Af4 rfl) rfl rfl rfl ?_;refine vp rfl rfl rfl rfl ?_;refine vp rfl rfl rfl rfl ?_
     refine Ab3 (dj:=72) (dp:=78) 6 rfl (fun g72=>by
       have g72':=g72;try simp only [nH] at g72'
       refine Aa0 (Aa1 rfl (.tail _ (.tail _ (.tail _ (.tail _ (.tail _ (.head _)))))) BQ3 rfl) rfl rfl rfl ?_;refine Aa0 (Aa1 rfl (.tail _ (.tail _ (.tail _ (.tail _ (.tail _ (.tail _ (.head _))))))) Af4 rfl) rfl rfl rfl ?_;refine Aa0 (Ab6 rfl (.tail _ (.tail _ (.tail _ (.tail _ (.tail _ (.tail _ (.tail _ (.head _)))))))) As9 rfl) rfl rfl rfl ?_;refine vp rfl rfl rfl rfl ?_;refine Ab1 (Aq8 rfl rfl hmeth hent) rfl rfl rfl (fun w hm=>hrule k ln _ w) ?_;refine vp rfl rfl rfl rfl ?_;exact Af6 (Sub.cons rfl (Sub.skip rfl (Sub.skip rfl (Sub.skip rfl (Sub.skip rfl (Sub.skip rfl (Sub.skip rfl (Ai7 rfl (by rw [g72]) (Ad8 _))))))))) (List.Sublist.refl _)
     ) (fun g72=>by
       have g72':=g72;try simp only [nH] at g72'
       iterate 5 refine Ac9 rfl rfl rfl ?_
       refine vp rfl rfl rfl rfl ?_;exact Af6 (Sub.cons rfl (Sub.skip rfl (Sub.skip rfl (Sub.skip rfl (Sub.skip rfl (Sub.skip rfl (Sub.skip rfl (Ai7 rfl (by rw [g72]) (Ad8 _))))))))) (List.Sublist.refl _)
     ) ?_
     refine RunL.nil ?_;refine RunER.next ?_;refine RunCR.cond rfl ?_ ?_
     ·intro c3
      have c3':=c3;clear c3;try simp only [nH] at c3'
      refine Ad4 ?_;refine Aa0 (Aa1 rfl (.tail _ (.tail _ (.tail _ (.tail _ (.tail _ (.tail _ (.tail _ (.tail _ (.head _))))))))) Bi9 rfl) rfl rfl rfl ?_;refine Aa0 (Ab6 rfl (.head _) Ar4 rfl) rfl rfl rfl ?_;refine vp rfl rfl rfl rfl ?_;refine AZ7 (Ab7 rfl Cd8) rfl rfl rfl (.there (.there (.there .here))) (fun w hm=>Bs2 b45 x hI.1 [z0,z1,z2,z3,z4] rfl _ w (hm.at (.tail _ (.tail _ (.tail _ (.head _)))))) ?_;refine RunL.nil ?_;refine Ac0 ?_;exact Af9 (addX x [z0,z1,z2,z3,z4] n0) (BS9 (v:=([z0,z1,z2,z3,z4],false)) (m:=n0) hI rfl (by show n0=n0 + 0;omega) c3'.1 c3'.2) (Pick.cnt fun x=>by simp only [nC,List.map_nil,List.map_cons,markB,dfrO];omega)
     intro c3;have c3':=c3;clear c3;try simp only [nH] at c3'
     refine RunCR.skip ?_;refine Ac0 ?_;exact Af9 x (Ct2 (v:=([z0,z1,z2,z3,z4],false)) (m:=n0) hI (by show n0=n0 + 0;omega) (fun h9=>c3'.elim (fun h8=>absurd h9.1 (by omega)) (fun h8=>by rw [show ok k ln false=false from h8] at h9;cases h9.2))) (Pick.cnt fun x=>by simp only [nC,List.map_nil,List.map_cons,markB,dfrO];omega)
    ·intro D xs x hS hI
     obtain ⟨hszx,hxe⟩:=hI;subst hS;have hx9:x=accX c.pl wrong ok k ln l (us++[i48]):=by (rw [Cq8,show l.getD i48 zE=(s,n0) from by (rw [List.getD_eq_getElem?_getD,List.getElem?_eq_getElem hil,hp];rfl)];exact hxe)
     subst hx9;refine Ac0 ?_;refine Ac0 ?_;exact AS5 (us++[i48],D::dsi) rfl (by have:=CP5 hxn hxl hil hx48;omega) ⟨(AX0 hxn hx48),(BV9 hxl hil),by simp [hxj],hszx⟩ rfl (Sub.cons (t:=0) rfl (Sub.cons (t:=6) rfl (Sub.cons (t:=7) rfl (Sub.cons (t:=11) rfl (Sub.cons (t:=12) rfl (Sub.cons (t:=13) rfl (Sub.cons (t:=14) rfl (Sub.cons (t:=38) rfl (Sub.cons (t:=39) rfl (Sub.cons (t:=40) rfl (Sub.cons (t:=47) rfl (Sub.nil _)))))))))))) (Pick.cnt fun x=>by simp only [nC,List.map_nil,List.map_cons,markB,dfrO];omega)
    intro _ _ _ hst;exact hst.elim
   have hxall:∀ i,i < l.length→i∈us:=fun i hi=>hx48 i (by rw [BE1];exact hi)
   refine vp rfl rfl rfl rfl ?_;refine nnx ?_;refine RunC.seq ?_;refine AT1 rfl ?_;refine RunC.exit ?_;refine Ac7 ?_;refine Ac7 ?_;refine Ab0 ?_;refine RunE.next ?_;refine RunC.region ?_;refine Aa0 (Aa1 rfl (.tail _ (.tail _ (.head _))) Bi9 rfl) rfl rfl rfl ?_;refine vp rfl rfl rfl rfl ?_;refine RunL.nil ?_;refine Ac0 ?_;refine RunE.next ?_;refine RunC.region ?_;refine Aa0 (Val.add rfl rfl (IntWalk.i64_in _ ⟨by omega,by omega⟩)) rfl rfl rfl ?_;refine vp rfl rfl rfl rfl ?_;refine RunL.nil ?_;exact AS5 (b45,accX c.pl wrong ok k ln l us,dsi) rfl (by omega) (BT6 hlk kI (CH2 hxn hxl hxall)) rfl (Ac8 (t:=40) rfl rfl (Ac8 (t:=10) rfl rfl (Sub.cons (t:=0) rfl (Sub.cons (t:=6) rfl (Sub.cons (t:=7) rfl (Sub.cons (t:=11) rfl (Sub.cons (t:=38) rfl (Sub.cons (t:=39) rfl (Sub.nil _))))))))) (Pick.cnt fun x=>by simp only [nC,List.map_nil,List.map_cons,markB,dfrO];omega)
  intro c0;have c0':=c0;clear c0;try simp only [nH] at c0'
  obtain rfl:k=n:=by omega
  refine RunC.exit ?_;refine Ac7 ?_;refine Ac7 ?_;refine Ab0 ?_;refine RunE.next ?_;refine csr ?_;refine vp rfl rfl rfl rfl ?_;refine vp rfl rfl rfl rfl ?_;refine nnx ?_;refine RunC.ret ?_;exact Au8 ds (Pick.cnt fun x=>by simp only [nC,List.map_nil,List.map_cons,markB,dfrO];omega) (.r1 rfl (.tmp rfl)) (fun w hm=>⟨⟨(m,l),kI⟩,rfl,hm⟩)
end Go.Proofs.YtmkdbdbenfbkhaaGreatDoor
namespace Go.Proofs.YtmkdbdbenfbkhaaGreatDoor
open Go Go.Eng
theorem Ca3:Enters Tryz.prog 304:=Aa3 Tryz.func304 (by kernel_rfl) rfl
theorem BZ2:fieldB Tryz.prog 146 0=some 0:=by kernel_rfl
instance:Fld Tryz.prog 146 0 0:=⟨BZ2⟩
theorem BZ1:fieldB Tryz.prog 146 1=some 1:=by kernel_rfl
instance:Fld Tryz.prog 146 1 1:=⟨BZ1⟩
theorem BZ0:fieldB Tryz.prog 146 2=some 2:=by kernel_rfl
instance:Fld Tryz.prog 146 2 2:=⟨BZ0⟩
theorem BY1:fieldB Tryz.prog 212 0=some 0:=by kernel_rfl
instance:Fld Tryz.prog 212 0 0:=⟨BY1⟩
theorem Aj4 (v:Value) (w:World):(method (Tryz.prog.types.size + Made.depth) 108 v "pairworks/lend.allows").run Tryz.prog w = .ok (304,v) w:=by kernel_rfl
theorem Cs1:tyB Tryz.prog 212=some (true,1):=by kernel_rfl
instance:Tyc Tryz.prog 212 true 1:=⟨Cs1⟩
theorem Cj2:tyB Tryz.prog 4=some (false,1):=by kernel_rfl
instance:Tyc Tryz.prog 4 false 1:=⟨Cj2⟩
end Go.Proofs.YtmkdbdbenfbkhaaGreatDoor
namespace Go.Le
open Go Go.Eng Go.Bk Go.RowKit
def okAny:Rule:=fun _ _ _=>true
/-! ## The least and the greatest -/
end Go.Le
namespace Go.Proofs.YtmkdbdbenfbkhaaGreatDoor
open Go Go.Eng Go.Bk Go.Le Go.RowKit

structure RuleOk (Tr:TypeId) (vr:Value) (fr:Nat) (ok:Rule):Prop where
  meth:∀ w,(method (Tryz.prog.types.size + Made.depth) Tr vr "pairworks/lend.allows").run Tryz.prog w = .ok (fr,vr) w
  ent:Enters Tryz.prog fr
  calls:∀ (i:Nat) (ln:Ln) (b:Bool) (w:World),Calls Tryz.prog fr #[vr,.int .i64 (i:Int),.agg ln.cells.toArray,.bool b] w (Pure (.bool (ok i ln b)) w)
-- Aj4
-- Ca3
theorem any_rule:RuleOk 108 (.agg #[]) 304 okAny:=⟨Aj4 _,Ca3,fun i ln b w=>BA8 i ln b w⟩
-- Aw2
theorem Bm8 (b:Nat) (W:World):Calls Tryz.prog 39 #[.nilIface,.pointer (some ⟨b,0,none⟩)] W (Pure (.tuple #[]) W):=by
  refine Aa2 Tryz.func39 rfl rfl ?_;refine st ?_;refine lv (Aj2 rfl Aw2) ?_;refine RunC.cond rfl ?_ (fun h=>absurd h (by simp))
  intro c0;clear c0;refine su ?_;exact Aa4 (.r0 rfl) (by first | rfl | simp)
theorem Bm9 (b:Nat) (k:Int) (x:Value) (W:World) (hb:W.heap[b]? = some (.cells #[x] 42 (0,0))):Calls Tryz.prog 39 #[lmis k,.pointer (some ⟨b,0,none⟩)] W (Turns b (.cells #[.int .i64 k] 42 (0,0)) (.tuple #[]) W):=by
  refine Aj0 hb Tryz.func39 rfl rfl ?_;refine st ?_;refine lv (Ah9 rfl Aw2) ?_;refine RunC.cond rfl (fun h=>absurd h (by simp)) ?_;intro c0;clear c0;refine st ?_;refine lv (Al7 rfl BF6) ?_;refine zn (New.alloc BC9) (fun b4=>?_)
  refine Ab4 (Sto.store rfl rfl .here Cs1 rfl rfl) rfl rfl ?_;refine st ?_;refine RunC.cond rfl (fun h=>absurd h (by simp)) ?_;intro c1;clear c1;refine su ?_;refine Ab4 (Al8 rfl rfl .here Ak8 rfl rfl) rfl rfl ?_;refine st ?_;exact Ah7 (chg:=[(b,_)]) (.r0 rfl) (fun _ hm=>⟨rfl,hm.drop⟩)
end Go.Proofs.YtmkdbdbenfbkhaaGreatDoor
namespace Go.Proofs.YtmkdbdbenfbkhaaGreatDoor
open Go Go.Eng
theorem Ax1:Enters Tryz.prog 164:=Aa3 Tryz.func164 (by kernel_rfl) rfl
theorem CE1:Enters Tryz.prog 165:=Aa3 Tryz.func165 (by kernel_rfl) rfl
theorem Cc8:Enters Tryz.prog 166:=Aa3 Tryz.func166 (by kernel_rfl) rfl
theorem CB0:Enters Tryz.prog 225:=Aa3 Tryz.func225 (by kernel_rfl) rfl
theorem Au2:fieldB Tryz.prog 191 0=some 0:=by kernel_rfl
instance:Fld Tryz.prog 191 0 0:=⟨Au2⟩
theorem Bp9:fieldB Tryz.prog 202 0=some 0:=by kernel_rfl
instance:Fld Tryz.prog 202 0 0:=⟨Bp9⟩
theorem Bp8:fieldB Tryz.prog 202 1=some 1:=by kernel_rfl
instance:Fld Tryz.prog 202 1 1:=⟨Bp8⟩
theorem BF7:(Tryz.prog.underlying 188).any (fun t=>match t with | .interface _=>false | _=>true)=true:=by kernel_rfl
theorem BK7:placesB Tryz.prog 188=some [(0,1)]:=by kernel_rfl
theorem Ay6:placesB Tryz.prog 202=some [(0,1),(1,1)]:=by kernel_rfl
theorem Ak9:tyB Tryz.prog 202=some (true,2):=by kernel_rfl
instance:Tyc Tryz.prog 202 true 2:=⟨Ak9⟩
theorem BD1:zeroB Tryz.prog 188=some [.int .i64 0]:=by kernel_rfl
theorem Al5:zeroB Tryz.prog 202=some [.int .i64 0,.int .i64 0]:=by kernel_rfl
end Go.Proofs.YtmkdbdbenfbkhaaGreatDoor
namespace Go.Proofs.YtmkdbdbenfbkhaaGreatDoor
open Go Go.Eng
theorem AR1:Enters Tryz.prog 144:=Aa3 Tryz.func144 (by kernel_rfl) rfl
theorem Cb6:Enters Tryz.prog 212:=Aa3 Tryz.func212 (by kernel_rfl) rfl
end Go.Proofs.YtmkdbdbenfbkhaaGreatDoor
namespace Go.Proofs.YtmkdbdbenfbkhaaGreatDoor
open Go Go.Eng
theorem Cd2:Enters Tryz.prog 142:=Aa3 Tryz.func142 (by kernel_rfl) rfl
theorem As6:tyB Tryz.prog 85=some (false,1):=by kernel_rfl
instance:Tyc Tryz.prog 85 false 1:=⟨As6⟩
end Go.Proofs.YtmkdbdbenfbkhaaGreatDoor
namespace Go.Proofs.YtmkdbdbenfbkhaaGreatDoor
open Go Go.Eng
theorem Ce1:Enters Tryz.prog 104:=Aa3 Tryz.func104 (by kernel_rfl) rfl
theorem Cd1:Enters Tryz.prog 143:=Aa3 Tryz.func143 (by kernel_rfl) rfl
theorem By6:Enters Tryz.prog 168:=Aa3 Tryz.func168 (by kernel_rfl) rfl
theorem CA1:Enters Tryz.prog 303:=Aa3 Tryz.func303 (by kernel_rfl) rfl
theorem Aq5 (v:Value) (w:World):(method (Tryz.prog.types.size + Made.depth) 93 v "pairworks/walk.holds").run Tryz.prog w = .ok (143,v) w:=by kernel_rfl
theorem Aq4 (v:Value) (w:World):(method (Tryz.prog.types.size + Made.depth) 94 v "pairworks/walk.holds").run Tryz.prog w = .ok (303,v) w:=by kernel_rfl
theorem BQ5:tyB Tryz.prog 196=some (false,1):=by kernel_rfl
instance:Tyc Tryz.prog 196 false 1:=⟨BQ5⟩
theorem Cr2:zeroB Tryz.prog 4=some [.bool false]:=by kernel_rfl
end Go.Proofs.YtmkdbdbenfbkhaaGreatDoor
namespace Go.Proofs.YtmkdbdbenfbkhaaGreatDoor
open Go Go.Eng
theorem Cs8:Tryz.prog.underlying 26=some (.slice 3):=by kernel_rfl
end Go.Proofs.YtmkdbdbenfbkhaaGreatDoor
namespace Go.Proofs.YtmkdbdbenfbkhaaGreatDoor
open Go Go.Eng
theorem Ce2:Enters Tryz.prog 101:=Aa3 Tryz.func101 (by kernel_rfl) rfl
theorem CF8:Enters Tryz.prog 102:=Aa3 Tryz.func102 (by kernel_rfl) rfl
theorem CF7:Enters Tryz.prog 103:=Aa3 Tryz.func103 (by kernel_rfl) rfl
theorem Aw9:fieldB Tryz.prog 191 1=some 5:=by kernel_rfl
instance:Fld Tryz.prog 191 1 5:=⟨Aw9⟩
theorem Bi8:tyB Tryz.prog 192=some (false,1):=by kernel_rfl
instance:Tyc Tryz.prog 192 false 1:=⟨Bi8⟩
end Go.Proofs.YtmkdbdbenfbkhaaGreatDoor
namespace Go.Proofs.YtmkdbdbenfbkhaaGreatDoor
open Go Go.Eng
theorem Ce3:Enters Tryz.prog 100:=Aa3 Tryz.func100 (by kernel_rfl) rfl
theorem Cu6:Enters Tryz.prog 33:=Aa3 Tryz.func33 (by kernel_rfl) rfl
theorem Cu0:Enters Tryz.prog 98:=Aa3 Tryz.func98 (by kernel_rfl) rfl
theorem CK5:Enters Tryz.prog 99:=Aa3 Tryz.func99 (by kernel_rfl) rfl
theorem BY2:fieldB Tryz.prog 188 0=some 0:=by kernel_rfl
instance:Fld Tryz.prog 188 0 0:=⟨BY2⟩
theorem BK6:placesB Tryz.prog 191=some [(0,5),(5,1)]:=by kernel_rfl
theorem Cs2:tyB Tryz.prog 188=some (true,1):=by kernel_rfl
instance:Tyc Tryz.prog 188 true 1:=⟨Cs2⟩
theorem Ch6:zeroB Tryz.prog 191=some [.int .i64 0,.slice none 0 0,.slice none 0 0,.slice none 0 0,.slice none 0 0,.int .i64 0]:=by kernel_rfl
theorem Ch5:zeroB Tryz.prog 192=some [.nilFunc]:=by kernel_rfl
end Go.Proofs.YtmkdbdbenfbkhaaGreatDoor
namespace Go.Proofs.YtmkdbdbenfbkhaaGreatDoor
open Go Go.Eng
theorem Ca4:Enters Tryz.prog 30:=Aa3 Tryz.func30 (by kernel_rfl) rfl
theorem Cu7:Enters Tryz.prog 32:=Aa3 Tryz.func32 (by kernel_rfl) rfl
theorem CN2:Enters Tryz.prog 34:=Aa3 Tryz.func34 (by kernel_rfl) rfl
theorem Ca2:Enters Tryz.prog 35:=Aa3 Tryz.func35 (by kernel_rfl) rfl
theorem Cy5:(Tryz.prog.underlying 93).any (fun t=>match t with | .interface _=>false | _=>true)=true:=by kernel_rfl
theorem BV1:(Tryz.prog.underlying 94).any (fun t=>match t with | .interface _=>false | _=>true)=true:=by kernel_rfl
theorem Bl3:placesB Tryz.prog 93=some []:=by kernel_rfl
theorem Bl2:placesB Tryz.prog 94=some []:=by kernel_rfl
theorem Cv9:zeroB Tryz.prog 85=some [.pointer none]:=by kernel_rfl
theorem BO7:zeroB Tryz.prog 93=some []:=by kernel_rfl
theorem BO6:zeroB Tryz.prog 94=some []:=by kernel_rfl
end Go.Proofs.YtmkdbdbenfbkhaaGreatDoor
namespace Go.Proofs.YtmkdbdbenfbkhaaGreatDoor
open Go Go.Eng
theorem At7:Enters Tryz.prog 150:=Aa3 Tryz.func150 (by kernel_rfl) rfl
theorem CD0:Enters Tryz.prog 191:=Aa3 Tryz.func191 (by kernel_rfl) rfl
theorem CC9:Enters Tryz.prog 192:=Aa3 Tryz.func192 (by kernel_rfl) rfl
theorem CC8:Enters Tryz.prog 193:=Aa3 Tryz.func193 (by kernel_rfl) rfl
theorem CC7:Enters Tryz.prog 194:=Aa3 Tryz.func194 (by kernel_rfl) rfl
theorem CC6:Enters Tryz.prog 195:=Aa3 Tryz.func195 (by kernel_rfl) rfl
theorem CC5:Enters Tryz.prog 196:=Aa3 Tryz.func196 (by kernel_rfl) rfl
theorem CC4:Enters Tryz.prog 197:=Aa3 Tryz.func197 (by kernel_rfl) rfl
theorem Ca8:Enters Tryz.prog 236:=Aa3 Tryz.func236 (by kernel_rfl) rfl
theorem CL6:Enters Tryz.prog 72:=Aa3 Tryz.func72 (by kernel_rfl) rfl
theorem BF5:(Tryz.prog.underlying 229).any (fun t=>match t with | .interface _=>false | _=>true)=true:=by kernel_rfl
theorem BK3:placesB Tryz.prog 229=some [(0,1)]:=by kernel_rfl
theorem BC8:zeroB Tryz.prog 229=some [.int .i64 0]:=by kernel_rfl
end Go.Proofs.YtmkdbdbenfbkhaaGreatDoor
namespace Go.Proofs.YtmkdbdbenfbkhaaGreatDoor
open Go Go.Eng
theorem Cd7:Enters Tryz.prog 124:=Aa3 Tryz.func124 (by kernel_rfl) rfl
theorem CF0:Enters Tryz.prog 125:=Aa3 Tryz.func125 (by kernel_rfl) rfl
theorem Bq6:Enters Tryz.prog 44:=Aa3 Tryz.func44 (by kernel_rfl) rfl
theorem CM5:Enters Tryz.prog 46:=Aa3 Tryz.func46 (by kernel_rfl) rfl
theorem Cu5:Enters Tryz.prog 47:=Aa3 Tryz.func47 (by kernel_rfl) rfl
theorem Cu4:Enters Tryz.prog 48:=Aa3 Tryz.func48 (by kernel_rfl) rfl
theorem AQ6:fieldB Tryz.prog 120 0=some 0:=by kernel_rfl
instance:Fld Tryz.prog 120 0 0:=⟨AQ6⟩
theorem BY0:fieldB Tryz.prog 229 0=some 0:=by kernel_rfl
instance:Fld Tryz.prog 229 0 0:=⟨BY0⟩
theorem BL0:placesB Tryz.prog 120=some [(0,5)]:=by kernel_rfl
theorem Cr9:tyB Tryz.prog 229=some (true,1):=by kernel_rfl
instance:Tyc Tryz.prog 229 true 1:=⟨Cr9⟩
theorem Ci0:zeroB Tryz.prog 120=some [.slice none 0 0,.slice none 0 0,.slice none 0 0,.slice none 0 0,.slice none 0 0]:=by kernel_rfl
end Go.Proofs.YtmkdbdbenfbkhaaGreatDoor
namespace Go.Proofs.YtmkdbdbenfbkhaaGreatDoor
open Go Go.Eng
theorem Cd5:Enters Tryz.prog 130:=Aa3 Tryz.func130 (by kernel_rfl) rfl
theorem CE8:Enters Tryz.prog 131:=Aa3 Tryz.func131 (by kernel_rfl) rfl
theorem Cb8:Enters Tryz.prog 199:=Aa3 Tryz.func199 (by kernel_rfl) rfl
theorem Be8:Enters Tryz.prog 200:=Aa3 Tryz.func200 (by kernel_rfl) rfl
theorem CC2:Enters Tryz.prog 201:=Aa3 Tryz.func201 (by kernel_rfl) rfl
theorem BX9:fieldB Tryz.prog 236 0=some 0:=by kernel_rfl
instance:Fld Tryz.prog 236 0 0:=⟨BX9⟩
theorem BF4:(Tryz.prog.underlying 236).any (fun t=>match t with | .interface _=>false | _=>true)=true:=by kernel_rfl
theorem BK2:placesB Tryz.prog 236=some [(0,1)]:=by kernel_rfl
theorem AW6:placesB Tryz.prog 240=some [(0,1),(1,2)]:=by kernel_rfl
theorem BK1:placesB Tryz.prog 243=some [(0,5),(5,1)]:=by kernel_rfl
theorem Ao3:slB Tryz.prog 170=some (3,1):=by kernel_rfl
instance:Slc Tryz.prog 170 3 1:=⟨Ao3⟩
theorem BS6:slB Tryz.prog 241=some (240,3):=by kernel_rfl
instance:Slc Tryz.prog 241 240 3:=⟨BS6⟩
theorem Cr8:tyB Tryz.prog 236=some (true,1):=by kernel_rfl
instance:Tyc Tryz.prog 236 true 1:=⟨Cr8⟩
theorem BC7:zeroB Tryz.prog 236=some [.int .i64 0]:=by kernel_rfl
theorem Ba7:zeroB Tryz.prog 240=some [.nilFunc,.int .i64 0,.int .i64 0]:=by kernel_rfl
theorem Ch3:zeroB Tryz.prog 243=some [.slice none 0 0,.int .i64 0,.int .i64 0,.int .i64 0,.int .i64 0,.slice none 0 0]:=by kernel_rfl
end Go.Proofs.YtmkdbdbenfbkhaaGreatDoor
namespace Go.Proofs.YtmkdbdbenfbkhaaGreatDoor
open Go Go.Eng
theorem Bz2:Enters Tryz.prog 132:=Aa3 Tryz.func132 (by kernel_rfl) rfl
theorem Bz1:Enters Tryz.prog 133:=Aa3 Tryz.func133 (by kernel_rfl) rfl
theorem AQ9:Enters Tryz.prog 238:=Aa3 Tryz.func238 (by kernel_rfl) rfl
theorem AQ3:fieldB Tryz.prog 240 0=some 0:=by kernel_rfl
instance:Fld Tryz.prog 240 0 0:=⟨AQ3⟩
theorem Aw8:fieldB Tryz.prog 240 1=some 1:=by kernel_rfl
instance:Fld Tryz.prog 240 1 1:=⟨Aw8⟩
theorem An8:fieldB Tryz.prog 243 0=some 0:=by kernel_rfl
instance:Fld Tryz.prog 243 0 0:=⟨An8⟩
theorem At8:tyB Tryz.prog 135=some (false,1):=by kernel_rfl
instance:Tyc Tryz.prog 135 false 1:=⟨At8⟩
theorem AH7:tyB Tryz.prog 170=some (false,1):=by kernel_rfl
instance:Tyc Tryz.prog 170 false 1:=⟨AH7⟩
theorem BQ2:tyB Tryz.prog 238=some (false,1):=by kernel_rfl
instance:Tyc Tryz.prog 238 false 1:=⟨BQ2⟩
theorem AN3:tyB Tryz.prog 335=some (false,1):=by kernel_rfl
instance:Tyc Tryz.prog 335 false 1:=⟨AN3⟩
end Go.Proofs.YtmkdbdbenfbkhaaGreatDoor
namespace Go.Proofs.YtmkdbdbenfbkhaaGreatDoor
open Go Go.Eng
theorem BC5:zeroB Tryz.prog 335=some [.nilFunc]:=by kernel_rfl
end Go.Proofs.YtmkdbdbenfbkhaaGreatDoor
namespace Go.Proofs.YtmkdbdbenfbkhaaGreatDoor
open Go Go.Eng
theorem CC1:Enters Tryz.prog 202:=Aa3 Tryz.func202 (by kernel_rfl) rfl
theorem CC0:Enters Tryz.prog 203:=Aa3 Tryz.func203 (by kernel_rfl) rfl
theorem CB9:Enters Tryz.prog 204:=Aa3 Tryz.func204 (by kernel_rfl) rfl
theorem Cb7:Enters Tryz.prog 205:=Aa3 Tryz.func205 (by kernel_rfl) rfl
theorem CB8:Enters Tryz.prog 206:=Aa3 Tryz.func206 (by kernel_rfl) rfl
theorem CA4:Enters Tryz.prog 237:=Aa3 Tryz.func237 (by kernel_rfl) rfl
theorem Bp6:fieldB Tryz.prog 243 1=some 5:=by kernel_rfl
instance:Fld Tryz.prog 243 1 5:=⟨Bp6⟩
theorem Cr7:tyB Tryz.prog 240=some (true,3):=by kernel_rfl
instance:Tyc Tryz.prog 240 true 3:=⟨Cr7⟩
theorem Cr6:tyB Tryz.prog 241=some (false,1):=by kernel_rfl
instance:Tyc Tryz.prog 241 false 1:=⟨Cr6⟩
end Go.Proofs.YtmkdbdbenfbkhaaGreatDoor
namespace Go.Proofs.YtmkdbdbenfbkhaaGreatDoor
open Go Go.Eng
theorem Cv6:apB Tryz.prog 170=some (3,1,8):=by kernel_rfl
theorem BS3:Tryz.prog.underlying 170=some (.slice 3):=by kernel_rfl
end Go.Proofs.YtmkdbdbenfbkhaaGreatDoor
namespace Go.Proofs.YtmkdbdbenfbkhaaGreatDoor
open Go Go.Eng
theorem Bz0:Enters Tryz.prog 136:=Aa3 Tryz.func136 (by kernel_rfl) rfl
theorem AG6:Enters Tryz.prog 137:=Aa3 Tryz.func137 (by kernel_rfl) rfl
theorem AA2:tyB Tryz.prog 244=some (false,1):=by kernel_rfl
instance:Tyc Tryz.prog 244 false 1:=⟨AA2⟩
end Go.Proofs.YtmkdbdbenfbkhaaGreatDoor
namespace Go.Proofs.YtmkdbdbenfbkhaaGreatDoor
open Go Go.Eng
theorem Cd3:Enters Tryz.prog 135:=Aa3 Tryz.func135 (by kernel_rfl) rfl
end Go.Proofs.YtmkdbdbenfbkhaaGreatDoor
namespace Go.Proofs.YtmkdbdbenfbkhaaGreatDoor
open Go Go.Eng
theorem Cd4:Enters Tryz.prog 134:=Aa3 Tryz.func134 (by kernel_rfl) rfl
theorem Ch2:zeroB Tryz.prog 244=some [.nilFunc]:=by kernel_rfl
end Go.Proofs.YtmkdbdbenfbkhaaGreatDoor
namespace Go.Proofs.YtmkdbdbenfbkhaaGreatDoor
open Go Go.Eng
theorem Ca0:Enters Tryz.prog 53:=Aa3 Tryz.func53 (by kernel_rfl) rfl
theorem CM3:Enters Tryz.prog 55:=Aa3 Tryz.func55 (by kernel_rfl) rfl
theorem CM2:Enters Tryz.prog 56:=Aa3 Tryz.func56 (by kernel_rfl) rfl
end Go.Proofs.YtmkdbdbenfbkhaaGreatDoor
namespace Go.Proofs.YtmkdbdbenfbkhaaGreatDoor
open Go Go.Eng
theorem Cd0:Enters Tryz.prog 146:=Aa3 Tryz.func146 (by kernel_rfl) rfl
theorem CB4:Enters Tryz.prog 213:=Aa3 Tryz.func213 (by kernel_rfl) rfl
theorem Cb5:Enters Tryz.prog 214:=Aa3 Tryz.func214 (by kernel_rfl) rfl
theorem CB3:Enters Tryz.prog 215:=Aa3 Tryz.func215 (by kernel_rfl) rfl
theorem Ca7:Enters Tryz.prog 244:=Aa3 Tryz.func244 (by kernel_rfl) rfl
theorem Ca6:Enters Tryz.prog 245:=Aa3 Tryz.func245 (by kernel_rfl) rfl
theorem Ca5:Enters Tryz.prog 246:=Aa3 Tryz.func246 (by kernel_rfl) rfl
theorem Bq1:fieldB Tryz.prog 142 0=some 0:=by kernel_rfl
instance:Fld Tryz.prog 142 0 0:=⟨Bq1⟩
theorem Bq0:fieldB Tryz.prog 142 1=some 1:=by kernel_rfl
instance:Fld Tryz.prog 142 1 1:=⟨Bq0⟩
theorem BX6:fieldB Tryz.prog 316 0=some 0:=by kernel_rfl
instance:Fld Tryz.prog 316 0 0:=⟨BX6⟩
theorem AW5:placesB Tryz.prog 316=some [(0,1)]:=by kernel_rfl
theorem AV9:slB Tryz.prog 255=some (142,2):=by kernel_rfl
instance:Slc Tryz.prog 255 142 2:=⟨AV9⟩
theorem BS4:slB Tryz.prog 312=some (316,1):=by kernel_rfl
instance:Slc Tryz.prog 312 316 1:=⟨BS4⟩
theorem Ao2:tyB Tryz.prog 142=some (true,2):=by kernel_rfl
instance:Tyc Tryz.prog 142 true 2:=⟨Ao2⟩
theorem CI3:tyB Tryz.prog 314=some (false,1):=by kernel_rfl
instance:Tyc Tryz.prog 314 false 1:=⟨CI3⟩
theorem BP9:tyB Tryz.prog 316=some (true,1):=by kernel_rfl
instance:Tyc Tryz.prog 316 true 1:=⟨BP9⟩
theorem Am4:zeroB Tryz.prog 142=some [.slice none 0 0,.int .i64 0]:=by kernel_rfl
theorem AL0:zeroB Tryz.prog 316=some [.nilFunc]:=by kernel_rfl
end Go.Proofs.YtmkdbdbenfbkhaaGreatDoor
namespace Go.Proofs.YtmkdbdbenfbkhaaGreatDoor
open Go Go.Eng
theorem CO8:apB Tryz.prog 255=some (142,2,32):=by kernel_rfl
theorem Bf0:Enters Tryz.prog 141:=Aa3 Tryz.func141 (by kernel_rfl) rfl
theorem CE6:Enters Tryz.prog 145:=Aa3 Tryz.func145 (by kernel_rfl) rfl
theorem CA0:aggB Tryz.prog 253=true:=by kernel_rfl
theorem AI8:field1B Tryz.prog 202 1=some 1:=by kernel_rfl
theorem AQ2:fieldB Tryz.prog 253 0=some 0:=by kernel_rfl
instance:Fld Tryz.prog 253 0 0:=⟨AQ2⟩
theorem Bp5:fieldB Tryz.prog 253 1=some 1:=by kernel_rfl
instance:Fld Tryz.prog 253 1 1:=⟨Bp5⟩
theorem AE3:fieldB Tryz.prog 253 2=some 2:=by kernel_rfl
instance:Fld Tryz.prog 253 2 2:=⟨AE3⟩
theorem Ct6 (a0:Int) (a1:Int) (a2:Int) (c0:Int) (c1:Int) (c2:Int):eqF Tryz.prog 8 253 [.int .i64 a0,.int .i64 a1,.int .i64 a2] [.int .i64 c0,.int .i64 c1,.int .i64 c2]=some (decide (a0=c0) && (decide (a1=c1) && (decide (a2=c2) && true))):=by kernel_rfl
theorem AW7:placesB Tryz.prog 142=some [(0,1),(1,1)]:=by kernel_rfl
theorem AG1:placesB Tryz.prog 253=some [(0,1),(1,1),(2,1)]:=by kernel_rfl
theorem Bi7:tyB Tryz.prog 250=some (false,1):=by kernel_rfl
instance:Tyc Tryz.prog 250 false 1:=⟨Bi7⟩
theorem BD6:tyB Tryz.prog 251=some (false,1):=by kernel_rfl
instance:Tyc Tryz.prog 251 false 1:=⟨BD6⟩
theorem BD5:tyB Tryz.prog 253=some (true,3):=by kernel_rfl
instance:Tyc Tryz.prog 253 true 3:=⟨BD5⟩
theorem AM3:zeroV Tryz.prog 142=some (.agg #[.slice none 0 0,.int .i64 0]):=by kernel_rfl
theorem Ba6:zeroB Tryz.prog 253=some [.int .i64 0,.int .i64 0,.int .i64 0]:=by kernel_rfl
end Go.Proofs.YtmkdbdbenfbkhaaGreatDoor
namespace Go.Proofs.YtmkdbdbenfbkhaaGreatDoor
open Go Go.Eng
theorem Cu2:Enters Tryz.prog 58:=Aa3 Tryz.func58 (by kernel_rfl) rfl
theorem CM0:Enters Tryz.prog 59:=Aa3 Tryz.func59 (by kernel_rfl) rfl
theorem Bq3:field1B Tryz.prog 142 0=some 0:=by kernel_rfl
theorem Ch1:zeroB Tryz.prog 250=some [.map none]:=by kernel_rfl
theorem Ch0:zeroB Tryz.prog 251=some [.nilFunc]:=by kernel_rfl
end Go.Proofs.YtmkdbdbenfbkhaaGreatDoor
namespace Go.Proofs.YtmkdbdbenfbkhaaGreatDoor
open Go Go.Eng
theorem BG9:Enters Tryz.prog 38:=Aa3 Tryz.func38 (by kernel_rfl) rfl
theorem CM9:Enters Tryz.prog 40:=Aa3 Tryz.func40 (by kernel_rfl) rfl
theorem CM8:Enters Tryz.prog 41:=Aa3 Tryz.func41 (by kernel_rfl) rfl
theorem Cm4:(Tryz.prog.underlying 108).any (fun t=>match t with | .interface _=>false | _=>true)=true:=by kernel_rfl
theorem BL2:placesB Tryz.prog 108=some []:=by kernel_rfl
theorem Ci1:zeroB Tryz.prog 108=some []:=by kernel_rfl
end Go.Proofs.YtmkdbdbenfbkhaaGreatDoor
namespace Go.Le
open Go Go.Eng Go.Bk Go.RowKit
def noWay (c:Cb) (k:Nat):Bool:=decide ((playX c c.wrong okAny (k + 1)).length=0)
def CheckX (c:Cb):Int×Int:=if cabV c=true then (match (List.range c.loans.length).find? (noWay c) with | some k=>((k:Int),0) | none=>(0,4)) else (0,1)
theorem Cq0 {c:Cb} {k:Nat} (hv:cabV c=true) (hk:k < c.loans.length) (h:∀ j,j < k→noWay c j=false) (h2:noWay c k=true):CheckX c=((k:Int),0):=by
  unfold CheckX;rw [if_pos hv,(List.find?_range_eq_some).2 ⟨h2,List.mem_range.2 hk,fun j hj=>by rw [h j hj];rfl⟩]
theorem Cp9 {c:Cb} (hv:cabV c=true) (h:∀ j,j < c.loans.length→noWay c j=false):CheckX c=(0,4):=by
  unfold CheckX
  have e:(List.range c.loans.length).find? (noWay c)=none:=by
    rw [List.find?_eq_none];intro j hj;rw [h j (List.mem_range.1 hj)]
    decide
  rw [if_pos hv,e]
theorem check_err (c:Cb):(CheckX c).2=1 ↔ cabV c=false:=by
  unfold CheckX
  cases h:cabV c with
  | false=>simp
  | true =>
    rw [if_pos rfl]
    split <;> simp
end Go.Le
namespace Go.Proofs.YtmkdbdbenfbkhaaGreatDoor
open Go Go.Eng Go.Bk Go.Le Go.RowKit
theorem Bn3 (b:Nat) (w:World):CallsD Tryz.prog 38 #[.pointer (some ⟨b,0,none⟩)] .returning w fun e u w'=>(∃ v,e = .returned v)∧u = .returning∧Mem w [] [] w':=by
  refine callsD_of_wpS Tryz.func38 rfl fun c₀ cs hu=>?_
  refine wpS_region ?_;simp [wpOpsS,go_sem,recoverD,hu,Tryz.ntmps38,Exit.thenS]
  refine (Bm8 b w).mono ?_
  rintro e w' ⟨rfl,hm⟩
  exact ⟨rfl,.returning,by rw [← hu],_,results_none rfl _ _ _,⟨_,rfl⟩,rfl,hm⟩
theorem Bn2 (b:Nat) (k:Int) (x:Value) (w:World) (hb:w.heap[b]? = some (.cells #[x] 42 (0,0))):CallsD Tryz.prog 38 #[.pointer (some ⟨b,0,none⟩)] (.panicking [{ v:=lmis k,recovered:=false }]) w fun e u w' =>
    (∃ v,e = .returned v)∧u = .panicking [{ v:=lmis k,recovered:=true }]∧Mem w [(b,.cells #[.int .i64 k] 42 (0,0))] [] w':=by
  refine callsD_of_wpS Tryz.func38 rfl fun c₀ cs hu=>?_
  refine wpS_region ?_;simp [wpOpsS,go_sem,recoverD,hu,Tryz.ntmps38,Exit.thenS]
  refine (Bm9 b k x w hb).mono ?_
  rintro e w' ⟨rfl,hm⟩
  exact ⟨rfl,.panicking [{ v:=lmis k,recovered:=true }],rfl,_,results_none rfl _ _ _,⟨_,rfl⟩,rfl,hm⟩
theorem Ar7:Catches Tryz.prog 38 42 lmis:=⟨Bn3,fun b k x w h=>Bn2 b k x w h⟩
-- BG9
theorem BC2 (c:CbA) (hC0:CbS c) (hcap:c.loans.l.length≤c.loans.c) (hlq:c.loans.q=none→c.loans.c=0) (W:World) (hC:CbOk W c):Calls Tryz.prog 10 #[c.v] W (Pure (.tuple #[.int .i64 (CheckX c.pl).1,.int .i64 (CheckX c.pl).2]) W):=by
  obtain ⟨s1,s2⟩:=hC0;refine Ao0 Tryz.func10 rfl rfl ?_;refine csr ?_;refine Ac3 (New.box rfl) rfl rfl rfl (fun b1=>?_)
  refine vp rfl rfl rfl rfl ?_;refine Ac3 (New.alloc AF8) rfl rfl rfl (fun b3=>?_)
  refine nsr ?_;refine vp rfl rfl rfl rfl ?_;refine Ao6 rfl ?_;refine nsr ?_;refine Aa0 (Ab6 rfl (.tail _ (.head _)) Bv1 rfl) rfl rfl rfl ?_;refine AC2 (Ab7 rfl CM9) rfl rfl rfl (fun w hm=>Bw4 c w (hC.mono0 hm) ⟨s1,s2⟩) (fun e8 he8=>?_) (fun a8 ha8 b8=>?_)
  ·obtain ⟨hcv,rfl⟩:=BU9 he8
   refine Aa7 ?_;exact Ba2 Ar7 BG9 .here (.r2 rfl (.tmp rfl) (.one rfl (.head _) Ak8 rfl)) (by unfold CheckX;rw [if_neg (by simp [hcv])])
  have hcv:=Cm0 ha8;refine vp rfl rfl rfl rfl ?_;refine nnx ?_;refine RunC.seq ?_;refine csr ?_;refine vp rfl rfl rfl rfl ?_;refine vp rfl rfl rfl rfl ?_;refine Aa0 (Val.fieldAddr rfl Au3) rfl rfl rfl ?_;refine Aa0 (Val.fieldAddr rfl AL6) rfl rfl rfl ?_;refine Aa0 (Aa1 rfl (.head _) BI9 rfl) rfl rfl rfl ?_;refine Aa0 (Ad7 rfl AT7) rfl rfl rfl ?_;refine vp rfl rfl rfl rfl ?_;refine nnx ?_;refine RunC.block ?_;refine Ad6 (c.loans.l.length) (fun k q=>(15,.int .i64 (k:Int))::q) (fun _=>_) (fun _=>[]) (fun k=>∀ j,j < k→noWay c.pl j=false) (fun j h=>absurd h (by omega)) rfl (Ac8 (t:=15) rfl rfl (Sub.cons (t:=2) rfl (Sub.cons (t:=3) rfl (Sub.cons (t:=4) rfl (Sub.cons (t:=13) rfl (Sub.cons (t:=14) rfl (Sub.nil _))))))) (.cons .here rfl (.cons .here rfl (.cons .here rfl .nil))) ?_;intro k kN kI;refine csr ?_;refine vp rfl rfl rfl rfl ?_;refine nnx ?_;refine RunC.seq ?_;refine RunC.cond rfl ?_ ?_
  ·intro c0
   have c0':=c0;clear c0;try simp only [nH] at c0'
   have hk:k < c.loans.l.length:=by omega
   have hCC:CbC c:=⟨hcap,hlq,hC.loans.plainQ hk⟩;refine RunC.skip ?_;refine RunE.next ?_;refine RunC.seq ?_;refine RunC.block ?_;refine csr ?_;refine vp rfl rfl rfl rfl ?_;refine vp rfl rfl rfl rfl ?_;refine nsr ?_;refine vp rfl rfl rfl rfl ?_;refine vp rfl rfl rfl rfl ?_;refine Aa0 (Val.add rfl rfl (IntWalk.i64_in _ ⟨by omega,by omega⟩)) rfl rfl rfl ?_;refine vp rfl rfl rfl rfl ?_;refine vp rfl rfl rfl rfl ?_;refine Aa0 (Val.fieldAddr rfl Au3) rfl rfl rfl ?_;refine Aa0 (Val.fieldAddr rfl BG2) rfl rfl rfl ?_;refine Aa0 (Aa1 rfl (.head _) Af4 rfl) rfl rfl rfl ?_;refine Aa0 (Val.build (parts:=[]) rfl Ci1 BL2 rfl) rfl rfl rfl ?_;refine Aa0 (Val.makeInterface rfl Cm4) rfl rfl rfl ?_;refine Ai2 (Ab7 rfl CM8) rfl rfl rfl (fun w hm=>BJ9 c b8 hcv (k + 1) (by omega) c.wrong (Cp6 hcv).wrong.2 _ _ _ okAny rfl any_rule.meth any_rule.ent any_rule.calls w (hm.at (.head _)) (hC.mono0 hm) hCC) (fun b28=>?_)
   refine Aa0 (Bt2 AD1 rfl (fun w hm=>hm.at (.head _))) rfl rfl rfl ?_;refine vp rfl rfl rfl rfl ?_;refine nnx ?_;refine RunC.cond rfl ?_ ?_
   ·intro c1
    have c1':=c1;clear c1;try simp only [nH] at c1'
    have hyes:noWay c.pl k=true:=decide_eq_true (by have h9:=b28.2.length_eq;have h8:=BE1 b28.1.2;have h7:(rv b28.1.2).length=0:=(by simpa using c1');exact h9.symm.trans (h8.symm.trans h7));refine csr ?_;refine vp rfl rfl rfl rfl ?_;refine vp rfl rfl rfl rfl ?_;refine Ab4 (Sto.store rfl rfl (.there (.there .here)) Ak8 rfl rfl) rfl rfl ?_;refine nnx ?_;refine RunC.ret ?_;refine Ac5 ?_;refine Ab8 ?_;refine Ab8 ?_;refine Ac5 ?_;refine Ab8 ?_;exact Au6 Ar7 BG9 (.r2 rfl (.tmp rfl) (.one rfl (.tail _ (.tail _ (.head _))) Ak8 rfl)) (by rw [Cq0 hcv hk kI hyes])
   intro c1;have c1':=c1;clear c1;try simp only [nH] at c1'
   have hno:noWay c.pl k=false:=decide_eq_false (fun h6=>by have h9:=b28.2.length_eq;have h8:=BE1 b28.1.2;have h7:¬ (rv b28.1.2).length=0:=(by simpa using c1');exact h7 (h8.trans (h9.trans h6)));refine RunC.skip ?_;refine Ac0 ?_;refine RunE.next ?_;refine RunC.region ?_;refine Aa0 (Val.add rfl rfl (IntWalk.i64_in _ ⟨by omega,by omega⟩)) rfl rfl rfl ?_;refine vp rfl rfl rfl rfl ?_;refine RunL.nil ?_;exact Ad2 (by omega) (fun j h=>by (rcases Nat.lt_or_ge j k with h4 | h4;exact kI j h4;have e:j=k:=(by omega);subst e;exact hno)) rfl (Ac8 (t:=15) rfl rfl (Sub.cons (t:=2) rfl (Sub.cons (t:=3) rfl (Sub.cons (t:=4) rfl (Sub.cons (t:=13) rfl (Sub.cons (t:=14) rfl (Sub.nil _))))))) (.cons (.there .here) rfl (.cons (.there .here) rfl (.cons (.there .here) rfl .nil)))
  intro c0;have c0':=c0;clear c0;try simp only [nH] at c0'
  obtain rfl:k=c.loans.l.length:=by omega
  refine RunC.exit ?_;refine Ac7 ?_;refine Ac7 ?_;refine Ab0 ?_;refine RunE.next ?_;refine csr ?_;refine vp rfl rfl rfl rfl ?_;refine Ab4 (Sto.store rfl rfl (.there .here) Ak8 rfl rfl) rfl rfl ?_;refine nnx ?_;refine RunC.ret ?_;exact Au6 Ar7 BG9 (.r2 rfl (.tmp rfl) (.one rfl (.tail _ (.head _)) Ak8 rfl)) (by rw [Cp9 hcv kI])
end Go.Proofs.YtmkdbdbenfbkhaaGreatDoor
namespace Go.Bk
open Go Go.Eng Go.RowKit
def wpS (p:Ps):Str:=if printsX p=true then psS p else []
theorem CH6 {p:Ps} (h:printsX p=true):wpS p=psS p:=if_pos h
theorem CH7 {p:Ps} (h:printsX p=false):wpS p=[]:=if_neg (by simp [h])
abbrev wpE (p:Ps):Int:=if printsX p=true then 0 else 1
end Go.Bk
namespace Go.Proofs.YtmkdbdbenfbkhaaGreatDoor
open Go Go.Eng Go.Bk Go.RowKit

theorem AM6 (p:PsA) (hl:p.cards.l.length≤10000) (W:World) (hP:p.cards.ok Pt.cells 5 W):Calls Tryz.prog 13 #[p.v] W (News (fun z:{ y:Eng.Own // OwnOk 1 y (wpS p.pl).length (byc (wpS p.pl)) }=>.tuple #[ownV z.1 (wpS p.pl).length,.int .i64 (wpE p.pl)]) (fun z=>ownB 5 z.1 (byc (wpS p.pl))++[]) W):=by
  suffices h1:Calls Tryz.prog 13 #[p.v] W (Grow W [] (fun y:Eng.Own=>.tuple #[ownV y (wpS p.pl).length,.int .i64 (wpE p.pl)]) (fun y=>ownB 5 y (byc (wpS p.pl))++[]) (fun y=>OwnOk 1 y (wpS p.pl).length (byc (wpS p.pl)))) from Bp3 h1
  cases h:printsX p.pl with
  | true =>
    have e:wpE p.pl=0:=if_pos h;rw [e,CH6 h];exact AT2 p W hP h
  | false =>
    have e:wpE p.pl=1:=if_neg (by simp [h]);rw [e,CH7 h];refine Af8 (AT3 p hl W hP h) ?_
    rintro e w' ⟨rfl,hm⟩
    exact ⟨none,Bl9 (α:=UInt8) (f:=byC) (sz:=1),rfl,hm⟩
theorem Cf0 {n:Nat} {x:TrX} (h:TrXOk n x):x.toA.v = .agg x.cells.toArray:=by unfold TrA.v;rw [h.cells]
end Go.Proofs.YtmkdbdbenfbkhaaGreatDoor
namespace Go.Wk
open Go Go.Eng Go.RowKit Go.Bk
def zS:Sp:=⟨0,0⟩
structure TV (t:Tr):Prop where
  n:t.fr.length≤6
  ways:t.ways.length=t.fr.length
  dawn:0≤t.dawn∧t.dawn≤1440
  rows:∀ l∈t.ways,l.length=t.fr.length
  stayL:t.stay.length=t.fr.length
  lightL:t.light.length=t.fr.length
  frS:∀ s∈t.fr,0≤s.lo∧s.lo≤s.hi∧s.hi≤1440
  wayS:∀ l∈t.ways,∀ s∈l,0≤s.lo∧s.lo≤s.hi∧s.hi≤1440
  stayS:∀ s∈t.stay,0≤s.lo∧s.lo≤s.hi∧s.hi≤1440
  lightS:∀ s∈t.light,0≤s.lo∧s.lo≤s.hi∧s.hi≤1440
theorem AW3 {n:Nat} {l:List Sp} (h:badRow n l=false):l.length=n∧∀ s∈l,0≤s.lo∧s.lo≤s.hi∧s.hi≤1440:=by
  unfold badRow at h;simp only [Bool.or_eq_false_iff,Bool.not_eq_false',decide_eq_true_eq,List.any_eq_false] at h;refine ⟨h.1,fun s hs=>?_⟩
  have h2:=h.2 s hs;unfold badSp spanX at h2;simp only [Bool.not_eq_true',Bool.and_eq_false_iff,decide_eq_false_iff_not,not_or] at h2;omega
theorem CI9 {t:Tr} (h:tourX t=true):TV t:=by
  unfold tourX at h;simp only [Bool.and_eq_true,decide_eq_true_eq,Bool.not_eq_true',List.any_eq_false,List.mem_append,List.mem_cons,List.not_mem_nil,or_false] at h;obtain ⟨⟨⟨h1,h2⟩,h3⟩,h4⟩:=h;have hr:∀ l,(l∈t.ways∨l=t.fr∨l=t.stay∨l=t.light)→l.length=t.fr.length∧∀ s∈l,0≤s.lo∧s.lo≤s.hi∧s.hi≤1440:=fun l hl=>AW3 (by simpa using h4 l hl)
  unfold within at h3;simp only [Bool.and_eq_true,decide_eq_true_eq] at h3;exact ⟨h1,h2,h3,fun l hl=>(hr l (.inl hl)).1,(hr _ (.inr (.inr (.inl rfl)))).1,(hr _ (.inr (.inr (.inr rfl)))).1,(hr _ (.inr (.inl rfl))).2,fun l hl=>(hr l (.inl hl)).2,(hr _ (.inr (.inr (.inl rfl)))).2,(hr _ (.inr (.inr (.inr rfl)))).2⟩
def afterX (m s:Sp):Sp:=⟨m.lo + s.lo,m.hi + s.hi⟩
def fromX (m:Sp) (n:Int):Sp:=⟨max m.lo n,max m.hi n⟩
def wayX (t:Tr) (fr:Int) (v:Nat):Sp:=if fr = -1 then t.fr.getD v zS else (t.ways.getD fr.toNat []).getD v zS
def beginX (t:Tr) (fr:Int) (v:Nat) (m:Sp):Sp:=fromX (afterX m (wayX t fr v)) (t.light.getD v zS).lo
def sureX (t:Tr) (v:Nat) (m:Sp):Bool:=decide (m.hi≤(t.light.getD v zS).hi)
def canX (t:Tr) (v:Nat) (m:Sp):Bool:=decide (m.lo≤(t.light.getD v zS).hi)
def stepsX (t:Tr):Int→Sp→List Nat→List (Nat×Sp)
  | _,_,[]=>[]
  | fr,now,v::l=>(v,beginX t fr v now)::stepsX t (v:Int) (afterX (beginX t fr v now) (t.stay.getD v zS)) l
def isX (t:Tr) (q:Tr→Nat→Sp→Bool) (l:List Nat):Bool:=(stepsX t (-1) ⟨t.dawn,t.dawn⟩ l).all fun s=>q t s.1 s.2
def toursX (n:Nat):Nat→List Nat→List (List Nat)
  | 0,l=>if l.length=n then [l] else []
  | f + 1,l=>if l.length=n then [l] else (List.range n).flatMap fun v=>if l.contains v then [] else toursX n f (l++[v])
theorem Av7 {α:Type} {l:List α} {i:Nat} {d:α} (h:i < l.length):l.getD i d∈l:=by
  rw [List.getD_eq_getElem?_getD,List.getElem?_eq_getElem h];exact List.getElem_mem h
theorem Ai5 {α:Type} {l:List α} {i:Nat} {d:α} (h:i < l.length):l.getD i d=l[i]:=by
  rw [List.getD_eq_getElem?_getD,List.getElem?_eq_getElem h];rfl
theorem TV.way {t:Tr} (h:TV t) {fr:Int} {v:Nat} (hv:v < t.fr.length) (hf:fr = -1∨∃ u:Nat,fr=u∧u < t.fr.length):0≤(wayX t fr v).lo∧(wayX t fr v).lo≤(wayX t fr v).hi∧(wayX t fr v).hi≤1440:=by
  unfold wayX
  rcases hf with rfl | ⟨u,rfl,hu⟩
  · rw [if_pos rfl];exact h.frS _ (Av7 hv)
  · rw [if_neg (by omega)]
    have h1:(t.ways.getD ((u:Int)).toNat [])∈t.ways:=Av7 (by rw [h.ways];exact hu);exact h.wayS _ h1 _ (Av7 (by rw [h.rows _ h1];exact hv))
theorem TV.lightB {t:Tr} (h:TV t) {v:Nat} (hv:v < t.fr.length):0≤(t.light.getD v zS).lo∧(t.light.getD v zS).lo≤(t.light.getD v zS).hi∧(t.light.getD v zS).hi≤1440:=h.lightS _ (Av7 (by rw [h.lightL];exact hv))
theorem TV.stayB {t:Tr} (h:TV t) {v:Nat} (hv:v < t.fr.length):0≤(t.stay.getD v zS).lo∧(t.stay.getD v zS).lo≤(t.stay.getD v zS).hi∧(t.stay.getD v zS).hi≤1440:=h.stayS _ (Av7 (by rw [h.stayL];exact hv))
theorem TV.begins {t:Tr} (h:TV t) {fr:Int} {v:Nat} {m:Sp} {B:Int} (hv:v < t.fr.length) (hf:fr = -1∨∃ u:Nat,fr=u∧u < t.fr.length) (h1:0≤m.lo) (h2:m.lo≤B) (h3:0≤m.hi) (h4:m.hi≤B) (hB:0≤B) :
    0≤(beginX t fr v m).lo∧(beginX t fr v m).lo≤B + 1440∧0≤(beginX t fr v m).hi∧(beginX t fr v m).hi≤B + 1440:=by
  have hw:=h.way hv hf;have hl:=h.lightB hv;unfold beginX fromX afterX;dsimp only;omega
end Go.Wk
namespace Go.Wk
open Go Go.Eng Go.RowKit Go.Bk
abbrev wmisf (k:Int):Value:=.iface 188 (Value.agg #[Value.int .i64 k])
abbrev pV (b:Nat):Value:=.pointer (some ⟨b,0,none⟩)
abbrev tO (t:TrA):Obj:=.cells (t.cells++[Value.int .i64 (t.fr.l.length:Int)]).toArray 191 (0,0)
end Go.Wk
namespace Go.Proofs.YtmkdbdbenfbkhaaGreatDoor
open Go Go.Eng Go.Bk Go.Wk
theorem AC7 (n l h:Int) (W:World):Calls Tryz.prog 166 #[.int .i64 n,.int .i64 l,.int .i64 h] W (Pure (.bool (within n l h)) W):=by
  refine Aa2 Tryz.func166 rfl rfl ?_;refine st ?_
  refine Ab3 (dj:=10) (dp:=14) 4 rfl (fun g10=>by
    have g10':=g10;try simp only [nH] at g10'
    refine sv ?_;exact zs g10
  ) (fun g10=>by
    have g10':=g10;try simp only [nH] at g10'
    iterate 3 refine Ac9 rfl rfl rfl ?_
    refine sv ?_;exact zs g10
  ) ?_
  refine su ?_;exact Aa4 (.r1 rfl (.tmp rfl)) (by unfold within;simp_all)
theorem AM8 (b:Bool) (k:Int) (W:World):Calls Tryz.prog 98 #[.bool b,.int .i64 k] W (Try wmisf (needX b k) W):=by
  refine Aa2 Tryz.func98 rfl rfl ?_;refine st ?_;refine cn rfl ?_ ?_
  ·intro c0'
   refine st ?_;refine lv (Val.build (parts:=[(0,.tmp 6)]) rfl BD1 BK7 rfl) ?_;refine lv (Val.makeInterface rfl BF7) ?_;refine Ap7 rfl ?_;exact Am8 (k:=k) (by simp [needX,show b=false by simpa using c0'])
  intro c0';refine st ?_;exact Ax7 (.r0 rfl) (by simp [needX,show b=true by simpa using c0'])
theorem Bi4 (s:Sp) (W:World):Calls Tryz.prog 225 #[.agg s.cells.toArray] W (Pure (.bool (badSp s)) W):=by
  refine Aa2 Tryz.func225 rfl rfl ?_;refine st ?_;refine zn (New.box rfl) (fun b1=>?_)
  refine Ae1 (dj:=6) (dp:=12) 6 rfl (fun g6=>by
    have g6':=g6;try simp only [nH] at g6'
    refine lv (Val.fieldAddr rfl Am5) ?_;refine lv (Aa1 rfl (.head _) Af4 rfl) ?_;refine lv (Val.fieldAddr rfl Aj7) ?_;refine Aa0 (Aa1 rfl (.head _) Af4 rfl) rfl rfl rfl ?_;refine sv ?_;exact zs g6
  ) (fun g6=>by
    have g6':=g6;try simp only [nH] at g6'
    iterate 5 refine Ac9 rfl rfl rfl ?_
    refine sv ?_;exact zs g6
  ) ?_
  refine st ?_
  refine Ae1 (dj:=13) (dp:=17) 4 rfl (fun g13=>by
    have g13':=g13;try simp only [nH] at g13'
    refine lv (Val.fieldAddr rfl Aj7) ?_;refine Aa0 (Aa1 rfl (.head _) Af4 rfl) rfl rfl rfl ?_;refine sv ?_;exact zs g13
  ) (fun g13=>by
    have g13':=g13;try simp only [nH] at g13'
    iterate 3 refine Ac9 rfl rfl rfl ?_
    refine sv ?_;exact zs g13
  ) ?_
  refine su ?_;exact Aa4 (.r1 rfl (.tmp rfl)) (congrArg Value.bool (by unfold badSp spanX;rw [Bool.eq_iff_iff];simp))
theorem AN2 (n:Nat) (x:SA Sp) (W:World) (hS:x.ok Sp.cells 2 W) (hl:x.l.length≤10000):Calls Tryz.prog 165 #[x.v,.int .i64 (n:Int)] W (Pure (.bool (!badRow n x.l)) W):=by
  refine Aa2 Tryz.func165 rfl rfl ?_;refine su ?_
  refine Ab3 (dj:=10) (dp:=15) 5 rfl (fun g10=>by
    have g10':=g10;try simp only [nH] at g10'
    refine st ?_;refine Ab1 (zF rfl Cc9) rfl rfl rfl (fun w hm=>AJ3 x.l x.q x.b x.o x.c 225 #[] badSp w (hS.mono0 (by decide) hm) (by omega) CB0 (fun i h w2 h2=>Bi4 _ w2)) ?_;refine sv ?_;exact zs g10
  ) (fun g10=>by
    have g10':=g10;try simp only [nH] at g10'
    iterate 4 refine Ac9 rfl rfl rfl ?_
    refine sv ?_;exact zs g10
  ) ?_
  refine su ?_;exact Aa4 (.r1 rfl (.tmp rfl)) (by unfold badRow;simp only [Int.ofNat_inj];simp)
theorem Ai4 (n:Nat) (x:SA Sp) (b3:Nat) (W:World) (h3:W.heap[b3]? = some (.cells [.int .i64 (n:Int)].toArray 3 (0,0))) (hS:x.ok Sp.cells 2 W) (hl:x.l.length≤10000) :
    Calls Tryz.prog 164 #[x.v,.pointer (some ⟨b3,0,none⟩)] W (Pure (.bool (badRow n x.l)) W):=by
  refine Aa2 Tryz.func164 rfl rfl ?_;refine st ?_;refine lv (Aa9 rfl h3 (by simp) Af4 rfl) ?_;refine zc (zF rfl CE1) (fun w hm=>AN2 n x w (hS.mono0 (by decide) hm) hl) ?_;exact Aa4 (.r1 rfl (.tmp rfl)) (by first | rfl | simp)
theorem Bb1 (t:TrA) (hs:TrSm t) (W:World) (hT:TrOk W t):Calls Tryz.prog 99 #[t.v] W (Pure (.bool (tourX t.pl)) W):=by
  obtain ⟨B,hB⟩:∃ B,t.all.any (fun x=>badRow t.fr.l.length x.l)=B:=⟨_,rfl⟩;rw [BE0 hB];have hl1:=hs.fr;have hl2:=hs.ways;have hal:t.all.length=t.ways.l.length + 3:=by simp [TrA.all]
  refine Aa2 Tryz.func99 rfl rfl ?_;refine st ?_;refine zn (New.box rfl) (fun b1=>?_)
  refine zn (New.alloc Ap0) (fun b3=>?_)
  refine Ab4 (Sto.store rfl rfl .here Af4 rfl rfl) rfl rfl ?_;refine st ?_;refine An2 (X:=Unit) 27 (n0:=[]) (fun u q=>(2,.bool (decide (t.fr.l.length≤6) && decide (t.ways.l.length=t.fr.l.length) && within t.dawn 0 1440 && !B))::q) (fun u=>[]) (fun u=>[]) (fun u=>[]) (fun u=>True) As5 (.cons .here rfl (.cons .here rfl .nil)) (Sub.nil _) .nil ?_ ?_
  ·refine zw 0 ?_
   refine zw 1 ?_;refine zw 2 ?_;refine Ah5 (dj:=11) rfl ?_ ?_
   ·intro g11
    have g11':=g11;clear g11;try simp only [nH] at g11'
    refine zw 3 ?_;refine zw 4 ?_;refine zw 5 ?_;refine zw 6 ?_;refine zw 7 ?_;refine zw 8 ?_;refine zw 9 ?_;refine Ah5 (dj:=18) rfl ?_ ?_
    ·intro g18
     have g18':=g18;clear g18;try simp only [nH] at g18'
     refine zw 10 ?_;refine zw 11 ?_;refine zA 12 ?_;refine Ac4 rfl (zF rfl Cc8) rfl rfl rfl (fun w hm=>AC7 _ _ _ w) (Aa5 (.cons .here rfl (.cons .here rfl .nil)) (.cons .here rfl (.cons .here rfl .nil)) rfl ?_)
     refine zw 13 ?_;refine zw 14 ?_;refine Ah5 (dj:=23) rfl ?_ ?_
     ·intro g23
      have g23':=g23;clear g23;try simp only [nH] at g23'
      refine zw 15 ?_;refine zw 16 ?_;refine zw 18 ?_;refine zw 19 ?_;refine zw 20 ?_;refine zw 21 ?_;refine zw 22 ?_;refine zw 23 ?_;refine zw 26 ?_;refine Ag5 (rs:=[17,24]) (by kernel_rfl) (by simp) (by kernel_rfl) (fun m hm=>?_)
      simp only [List.mem_cons,List.not_mem_nil,or_false] at hm
      rcases hm with rfl | rfl
      ·refine Ae4 [(b3,_),(b1,_)] _ rfl rfl (zF rfl Am1) rfl rfl rfl (fun w hm=>Ae8 t.ways.l t.ways.q t.ways.b t.ways.o t.ways.c w (hT.ways.mono0 (by decide) hm) (by omega) hT.wq) (fun z26=>(Aa5 (.cons .here rfl (.cons .here rfl .nil)) (.cons .here rfl (.cons .here rfl .nil)) rfl ?_))
       obtain ⟨x26,hx26⟩:=z26;dsimp only;refine zA 24 ?_;refine Ae0 rfl (New.buildSlice (parts:=[(0,.tmp 28),(1,.tmp 30),(2,.tmp 32)]) rfl Aq3 Ak5 rfl rfl rfl rfl) rfl rfl rfl (fun b33=>(Aa5 (.cons .here rfl (.cons .here rfl (.cons .here rfl .nil))) (.cons (.there .here) rfl (.cons (.there .here) rfl .nil)) rfl ?_))
       refine zA 25 ?_;refine Af2 (A:=[(b33,_),(b3,_),(b1,_)]) (B:=_) (x:=x26) (ys:=[t.fr.v,t.stay.v,t.light.v]) rfl rfl Aw5 rfl rfl rfl hx26 (by rfl) (fun h=>by cases h) (fun w hm=>Ah3 (hm.at (.head _))) (Ak2 rfl) (by simp only [maxLen];omega) (by omega) rfl (fun z34 hz34=>(Aa5 (.cons .here rfl (.cons .here rfl (.cons .here rfl .nil))) (.cons .here rfl (.cons .here rfl (.cons .here rfl .nil))) rfl ?_))
       refine zt ?_;refine zB 27 ?_;have ez:(t.ways.l.map SA.cell).flatten++[t.fr.v,t.stay.v,t.light.v]=(t.all.map SA.cell).flatten:=by (simp [TrA.all,SA.cell])
       rw [ez] at hz34;have hz:OwnOk 1 z34 t.all.length (t.all.map SA.cell).flatten:=by (rw [hal];exact hz34)
       have e34:ownV z34 (t.ways.l.length + 3) = .slice (ownQ z34) t.all.length (ownC z34):=by (rw [Ad5 hz34,hal])
       simp only [ez];refine Ac4 rfl (zF rfl Am2) rfl rfl rfl (fun w hm=>(by rw [e34];have h9:=Af1 t.all (ownQ z34) (ownK z34) 0 (ownC z34) 164 #[.pointer (some ⟨b3,0,none⟩)] (fun x=>badRow t.fr.l.length x.l) w (Ah1 (f:=SA.cell) (fun _=>rfl) (by decide) hz (fun b o h=>hm.at (.tail _ (.tail _ (.tail _ ((by first | exact List.mem_append_left _ h | exact List.mem_append_right _ (List.mem_append_left _ h)))))))) (by omega) Ax1 (fun i h w2 h2=>Ai4 t.fr.l.length t.all[i] b3 w2 (h2.old_at (hm.at (.tail _ (.head _))) (by simp)) (((hT.mono0 hm).mono0 h2).all _ (List.getElem_mem h)) (hs.all _ (List.getElem_mem h)));rw [hB] at h9;exact h9)) (Ab5 ?_)
       refine zp 28 ?_;refine zp 29 ?_;refine zp 30 ?_;refine zd ?_;exact Ad3 () trivial rfl (zE 2 rfl (by simp_all <;> (try intros) <;> omega) (Sub.nil _)) .nil
      refine Ae0 rfl (New.buildSlice (parts:=[(0,.tmp 28),(1,.tmp 30),(2,.tmp 32)]) rfl Aq3 Ak5 rfl rfl rfl rfl) rfl rfl rfl (fun b33=>(Aa5 (.cons .here rfl (.cons .here rfl (.cons .here rfl .nil))) (.cons (.there .here) rfl (.cons (.there .here) rfl .nil)) rfl ?_))
      refine zA 17 ?_;refine Ae4 [(b33,_),(b3,_),(b1,_)] _ rfl rfl (zF rfl Am1) rfl rfl rfl (fun w hm=>Ae8 t.ways.l t.ways.q t.ways.b t.ways.o t.ways.c w (hT.ways.mono0 (by decide) hm) (by omega) hT.wq) (fun z26=>(Aa5 (.cons .here rfl (.cons .here rfl (.cons .here rfl .nil))) (.cons .here rfl (.cons .here rfl (.cons .here rfl .nil))) rfl ?_))
      obtain ⟨x26,hx26⟩:=z26;dsimp only;refine zA 25 ?_;refine Af2 (A:=[(b33,_),(b3,_),(b1,_)]) (B:=_) (x:=x26) (ys:=[t.fr.v,t.stay.v,t.light.v]) rfl rfl Aw5 rfl rfl rfl hx26 (by rfl) (fun h=>by cases h) (fun w hm=>Ah3 (hm.at (.head _))) (Ak2 rfl) (by simp only [maxLen];omega) (by omega) rfl (fun z34 hz34=>(Aa5 (.cons .here rfl (.cons .here rfl (.cons .here rfl .nil))) (.cons .here rfl (.cons .here rfl (.cons .here rfl .nil))) rfl ?_))
      refine zt ?_;refine zB 27 ?_;have ez:(t.ways.l.map SA.cell).flatten++[t.fr.v,t.stay.v,t.light.v]=(t.all.map SA.cell).flatten:=by (simp [TrA.all,SA.cell])
      rw [ez] at hz34;have hz:OwnOk 1 z34 t.all.length (t.all.map SA.cell).flatten:=by (rw [hal];exact hz34)
      have e34:ownV z34 (t.ways.l.length + 3) = .slice (ownQ z34) t.all.length (ownC z34):=by (rw [Ad5 hz34,hal])
      simp only [ez];refine Ac4 rfl (zF rfl Am2) rfl rfl rfl (fun w hm=>(by rw [e34];have h9:=Af1 t.all (ownQ z34) (ownK z34) 0 (ownC z34) 164 #[.pointer (some ⟨b3,0,none⟩)] (fun x=>badRow t.fr.l.length x.l) w (Ah1 (f:=SA.cell) (fun _=>rfl) (by decide) hz (fun b o h=>hm.at (.tail _ (.tail _ (.tail _ ((by first | exact List.mem_append_left _ h | exact List.mem_append_right _ (List.mem_append_left _ h)))))))) (by omega) Ax1 (fun i h w2 h2=>Ai4 t.fr.l.length t.all[i] b3 w2 (h2.old_at (hm.at (.tail _ (.head _))) (by simp)) (((hT.mono0 hm).mono0 h2).all _ (List.getElem_mem h)) (hs.all _ (List.getElem_mem h)));rw [hB] at h9;exact h9)) (Ab5 ?_)
      refine zp 28 ?_;refine zp 29 ?_;refine zp 30 ?_;refine zd ?_;exact Ad3 () trivial rfl (zE 2 rfl (by simp_all <;> (try intros) <;> omega) (Sub.nil _)) .nil
     intro g23;have g23':=g23;clear g23;try simp only [nH] at g23'
     refine zN 15 ?_;refine zN 16 ?_;refine zN 18 ?_;refine zN 19 ?_;refine zN 20 ?_;refine zN 21 ?_;refine zN 22 ?_;refine zN 23 ?_;refine zN 26 ?_;refine Ag5 (rs:=[17,24]) (by kernel_rfl) (by simp) (by kernel_rfl) (fun m hm=>?_)
     simp only [List.mem_cons,List.not_mem_nil,or_false] at hm
     rcases hm with rfl | rfl
     ·refine Ac6 rfl rfl rfl rfl (Aa5 (.cons .here rfl (.cons .here rfl .nil)) (.cons .here rfl (.cons .here rfl .nil)) rfl ?_)
      refine zA 24 ?_;refine Ac6 rfl rfl rfl rfl (Aa5 (.cons .here rfl (.cons .here rfl .nil)) (.cons .here rfl (.cons .here rfl .nil)) rfl ?_)
      refine zA 25 ?_;refine Ac6 rfl rfl rfl rfl (Aa5 (.cons .here rfl (.cons .here rfl .nil)) (.cons .here rfl (.cons .here rfl .nil)) rfl ?_)
      refine zt ?_;refine zB 27 ?_;refine Ac6 rfl rfl rfl rfl (Ab5 ?_)
      refine zB 28 ?_;refine Ac6 rfl rfl rfl rfl (Ab5 ?_)
      refine zp 29 ?_;refine zp 30 ?_;refine zd ?_;exact Ad3 () trivial rfl (zE 2 rfl (by simp_all <;> (try intros) <;> omega) (Sub.nil _)) .nil
     refine Ac6 rfl rfl rfl rfl (Aa5 (.cons .here rfl (.cons .here rfl .nil)) (.cons .here rfl (.cons .here rfl .nil)) rfl ?_)
     refine zA 17 ?_;refine Ac6 rfl rfl rfl rfl (Aa5 (.cons .here rfl (.cons .here rfl .nil)) (.cons .here rfl (.cons .here rfl .nil)) rfl ?_)
     refine zA 25 ?_;refine Ac6 rfl rfl rfl rfl (Aa5 (.cons .here rfl (.cons .here rfl .nil)) (.cons .here rfl (.cons .here rfl .nil)) rfl ?_)
     refine zt ?_;refine zB 27 ?_;refine Ac6 rfl rfl rfl rfl (Ab5 ?_)
     refine zB 28 ?_;refine Ac6 rfl rfl rfl rfl (Ab5 ?_)
     refine zp 29 ?_;refine zp 30 ?_;refine zd ?_;exact Ad3 () trivial rfl (zE 2 rfl (by simp_all <;> (try intros) <;> omega) (Sub.nil _)) .nil
    intro g18;have g18':=g18;clear g18;try simp only [nH] at g18'
    refine zN 10 ?_;refine zN 11 ?_;refine zA 12 ?_;refine Ac6 rfl rfl rfl rfl (Aa5 (.cons .here rfl (.cons .here rfl .nil)) (.cons .here rfl (.cons .here rfl .nil)) rfl ?_)
    refine zw 13 ?_;refine zw 14 ?_;refine Ah5 (dj:=23) rfl ?_ ?_
    ·intro g23
     have g23':=g23;clear g23;try simp only [nH] at g23'
     refine zw 15 ?_;refine zw 16 ?_;refine zw 18 ?_;refine zw 19 ?_;refine zw 20 ?_;refine zw 21 ?_;refine zw 22 ?_;refine zw 23 ?_;refine zw 26 ?_;refine Ag5 (rs:=[17,24]) (by kernel_rfl) (by simp) (by kernel_rfl) (fun m hm=>?_)
     simp only [List.mem_cons,List.not_mem_nil,or_false] at hm
     rcases hm with rfl | rfl
     ·refine Ae4 [(b3,_),(b1,_)] _ rfl rfl (zF rfl Am1) rfl rfl rfl (fun w hm=>Ae8 t.ways.l t.ways.q t.ways.b t.ways.o t.ways.c w (hT.ways.mono0 (by decide) hm) (by omega) hT.wq) (fun z26=>(Aa5 (.cons .here rfl (.cons .here rfl .nil)) (.cons .here rfl (.cons .here rfl .nil)) rfl ?_))
      obtain ⟨x26,hx26⟩:=z26;dsimp only;refine zA 24 ?_;refine Ae0 rfl (New.buildSlice (parts:=[(0,.tmp 28),(1,.tmp 30),(2,.tmp 32)]) rfl Aq3 Ak5 rfl rfl rfl rfl) rfl rfl rfl (fun b33=>(Aa5 (.cons .here rfl (.cons .here rfl (.cons .here rfl .nil))) (.cons (.there .here) rfl (.cons (.there .here) rfl .nil)) rfl ?_))
      refine zA 25 ?_;refine Af2 (A:=[(b33,_),(b3,_),(b1,_)]) (B:=_) (x:=x26) (ys:=[t.fr.v,t.stay.v,t.light.v]) rfl rfl Aw5 rfl rfl rfl hx26 (by rfl) (fun h=>by cases h) (fun w hm=>Ah3 (hm.at (.head _))) (Ak2 rfl) (by simp only [maxLen];omega) (by omega) rfl (fun z34 hz34=>(Aa5 (.cons .here rfl (.cons .here rfl (.cons .here rfl .nil))) (.cons .here rfl (.cons .here rfl (.cons .here rfl .nil))) rfl ?_))
      refine zt ?_;refine zB 27 ?_;have ez:(t.ways.l.map SA.cell).flatten++[t.fr.v,t.stay.v,t.light.v]=(t.all.map SA.cell).flatten:=by (simp [TrA.all,SA.cell])
      rw [ez] at hz34;have hz:OwnOk 1 z34 t.all.length (t.all.map SA.cell).flatten:=by (rw [hal];exact hz34)
      have e34:ownV z34 (t.ways.l.length + 3) = .slice (ownQ z34) t.all.length (ownC z34):=by (rw [Ad5 hz34,hal])
      simp only [ez];refine Ac4 rfl (zF rfl Am2) rfl rfl rfl (fun w hm=>(by rw [e34];have h9:=Af1 t.all (ownQ z34) (ownK z34) 0 (ownC z34) 164 #[.pointer (some ⟨b3,0,none⟩)] (fun x=>badRow t.fr.l.length x.l) w (Ah1 (f:=SA.cell) (fun _=>rfl) (by decide) hz (fun b o h=>hm.at (.tail _ (.tail _ (.tail _ ((by first | exact List.mem_append_left _ h | exact List.mem_append_right _ (List.mem_append_left _ h)))))))) (by omega) Ax1 (fun i h w2 h2=>Ai4 t.fr.l.length t.all[i] b3 w2 (h2.old_at (hm.at (.tail _ (.head _))) (by simp)) (((hT.mono0 hm).mono0 h2).all _ (List.getElem_mem h)) (hs.all _ (List.getElem_mem h)));rw [hB] at h9;exact h9)) (Ab5 ?_)
      refine zp 28 ?_;refine zp 29 ?_;refine zp 30 ?_;refine zd ?_;exact Ad3 () trivial rfl (zE 2 rfl (by simp_all <;> (try intros) <;> omega) (Sub.nil _)) .nil
     refine Ae0 rfl (New.buildSlice (parts:=[(0,.tmp 28),(1,.tmp 30),(2,.tmp 32)]) rfl Aq3 Ak5 rfl rfl rfl rfl) rfl rfl rfl (fun b33=>(Aa5 (.cons .here rfl (.cons .here rfl (.cons .here rfl .nil))) (.cons (.there .here) rfl (.cons (.there .here) rfl .nil)) rfl ?_))
     refine zA 17 ?_;refine Ae4 [(b33,_),(b3,_),(b1,_)] _ rfl rfl (zF rfl Am1) rfl rfl rfl (fun w hm=>Ae8 t.ways.l t.ways.q t.ways.b t.ways.o t.ways.c w (hT.ways.mono0 (by decide) hm) (by omega) hT.wq) (fun z26=>(Aa5 (.cons .here rfl (.cons .here rfl (.cons .here rfl .nil))) (.cons .here rfl (.cons .here rfl (.cons .here rfl .nil))) rfl ?_))
     obtain ⟨x26,hx26⟩:=z26;dsimp only;refine zA 25 ?_;refine Af2 (A:=[(b33,_),(b3,_),(b1,_)]) (B:=_) (x:=x26) (ys:=[t.fr.v,t.stay.v,t.light.v]) rfl rfl Aw5 rfl rfl rfl hx26 (by rfl) (fun h=>by cases h) (fun w hm=>Ah3 (hm.at (.head _))) (Ak2 rfl) (by simp only [maxLen];omega) (by omega) rfl (fun z34 hz34=>(Aa5 (.cons .here rfl (.cons .here rfl (.cons .here rfl .nil))) (.cons .here rfl (.cons .here rfl (.cons .here rfl .nil))) rfl ?_))
     refine zt ?_;refine zB 27 ?_;have ez:(t.ways.l.map SA.cell).flatten++[t.fr.v,t.stay.v,t.light.v]=(t.all.map SA.cell).flatten:=by (simp [TrA.all,SA.cell])
     rw [ez] at hz34;have hz:OwnOk 1 z34 t.all.length (t.all.map SA.cell).flatten:=by (rw [hal];exact hz34)
     have e34:ownV z34 (t.ways.l.length + 3) = .slice (ownQ z34) t.all.length (ownC z34):=by (rw [Ad5 hz34,hal])
     simp only [ez];refine Ac4 rfl (zF rfl Am2) rfl rfl rfl (fun w hm=>(by rw [e34];have h9:=Af1 t.all (ownQ z34) (ownK z34) 0 (ownC z34) 164 #[.pointer (some ⟨b3,0,none⟩)] (fun x=>badRow t.fr.l.length x.l) w (Ah1 (f:=SA.cell) (fun _=>rfl) (by decide) hz (fun b o h=>hm.at (.tail _ (.tail _ (.tail _ ((by first | exact List.mem_append_left _ h | exact List.mem_append_right _ (List.mem_append_left _ h)))))))) (by omega) Ax1 (fun i h w2 h2=>Ai4 t.fr.l.length t.all[i] b3 w2 (h2.old_at (hm.at (.tail _ (.head _))) (by simp)) (((hT.mono0 hm).mono0 h2).all _ (List.getElem_mem h)) (hs.all _ (List.getElem_mem h)));rw [hB] at h9;exact h9)) (Ab5 ?_)
     refine zp 28 ?_;refine zp 29 ?_;refine zp 30 ?_;refine zd ?_;exact Ad3 () trivial rfl (zE 2 rfl (by simp_all <;> (try intros) <;> omega) (Sub.nil _)) .nil
    intro g23;have g23':=g23;clear g23;try simp only [nH] at g23'
    refine zN 15 ?_;refine zN 16 ?_;refine zN 18 ?_;refine zN 19 ?_;refine zN 20 ?_;refine zN 21 ?_;refine zN 22 ?_;refine zN 23 ?_;refine zN 26 ?_;refine Ag5 (rs:=[17,24]) (by kernel_rfl) (by simp) (by kernel_rfl) (fun m hm=>?_)
    simp only [List.mem_cons,List.not_mem_nil,or_false] at hm
    rcases hm with rfl | rfl
    ·refine Ac6 rfl rfl rfl rfl (Aa5 (.cons .here rfl (.cons .here rfl .nil)) (.cons .here rfl (.cons .here rfl .nil)) rfl ?_)
     refine zA 24 ?_;refine Ac6 rfl rfl rfl rfl (Aa5 (.cons .here rfl (.cons .here rfl .nil)) (.cons .here rfl (.cons .here rfl .nil)) rfl ?_)
     refine zA 25 ?_;refine Ac6 rfl rfl rfl rfl (Aa5 (.cons .here rfl (.cons .here rfl .nil)) (.cons .here rfl (.cons .here rfl .nil)) rfl ?_)
     refine zt ?_;refine zB 27 ?_;refine Ac6 rfl rfl rfl rfl (Ab5 ?_)
     refine zB 28 ?_;refine Ac6 rfl rfl rfl rfl (Ab5 ?_)
     refine zp 29 ?_;refine zp 30 ?_;refine zd ?_;exact Ad3 () trivial rfl (zE 2 rfl (by simp_all <;> (try intros) <;> omega) (Sub.nil _)) .nil
    refine Ac6 rfl rfl rfl rfl (Aa5 (.cons .here rfl (.cons .here rfl .nil)) (.cons .here rfl (.cons .here rfl .nil)) rfl ?_)
    refine zA 17 ?_;refine Ac6 rfl rfl rfl rfl (Aa5 (.cons .here rfl (.cons .here rfl .nil)) (.cons .here rfl (.cons .here rfl .nil)) rfl ?_)
    refine zA 25 ?_;refine Ac6 rfl rfl rfl rfl (Aa5 (.cons .here rfl (.cons .here rfl .nil)) (.cons .here rfl (.cons .here rfl .nil)) rfl ?_)
    refine zt ?_;refine zB 27 ?_;refine Ac6 rfl rfl rfl rfl (Ab5 ?_)
    refine zB 28 ?_;refine Ac6 rfl rfl rfl rfl (Ab5 ?_)
    refine zp 29 ?_;refine zp 30 ?_;refine zd ?_;exact Ad3 () trivial rfl (zE 2 rfl (by simp_all <;> (try intros) <;> omega) (Sub.nil _)) .nil
   intro g11;have g11':=g11;clear g11;try simp only [nH] at g11'
   refine zN 3 ?_;refine zN 4 ?_;refine zN 5 ?_;refine zN 6 ?_;refine zN 7 ?_;refine zw 8 ?_;refine zw 9 ?_;refine Ah5 (dj:=18) rfl ?_ ?_
   ·intro g18
    have g18':=g18;clear g18;try simp only [nH] at g18'
    refine zw 10 ?_;refine zw 11 ?_;refine zA 12 ?_;refine Ac4 rfl (zF rfl Cc8) rfl rfl rfl (fun w hm=>AC7 _ _ _ w) (Aa5 (.cons .here rfl (.cons .here rfl .nil)) (.cons .here rfl (.cons .here rfl .nil)) rfl ?_)
    refine zw 13 ?_;refine zw 14 ?_;refine Ah5 (dj:=23) rfl ?_ ?_
    ·intro g23
     have g23':=g23;clear g23;try simp only [nH] at g23'
     refine zw 15 ?_;refine zw 16 ?_;refine zw 18 ?_;refine zw 19 ?_;refine zw 20 ?_;refine zw 21 ?_;refine zw 22 ?_;refine zw 23 ?_;refine zw 26 ?_;refine Ag5 (rs:=[17,24]) (by kernel_rfl) (by simp) (by kernel_rfl) (fun m hm=>?_)
     simp only [List.mem_cons,List.not_mem_nil,or_false] at hm
     rcases hm with rfl | rfl
     ·refine Ae4 [(b3,_),(b1,_)] _ rfl rfl (zF rfl Am1) rfl rfl rfl (fun w hm=>Ae8 t.ways.l t.ways.q t.ways.b t.ways.o t.ways.c w (hT.ways.mono0 (by decide) hm) (by omega) hT.wq) (fun z26=>(Aa5 (.cons .here rfl (.cons .here rfl .nil)) (.cons .here rfl (.cons .here rfl .nil)) rfl ?_))
      obtain ⟨x26,hx26⟩:=z26;dsimp only;refine zA 24 ?_;refine Ae0 rfl (New.buildSlice (parts:=[(0,.tmp 28),(1,.tmp 30),(2,.tmp 32)]) rfl Aq3 Ak5 rfl rfl rfl rfl) rfl rfl rfl (fun b33=>(Aa5 (.cons .here rfl (.cons .here rfl (.cons .here rfl .nil))) (.cons (.there .here) rfl (.cons (.there .here) rfl .nil)) rfl ?_))
      refine zA 25 ?_;refine Af2 (A:=[(b33,_),(b3,_),(b1,_)]) (B:=_) (x:=x26) (ys:=[t.fr.v,t.stay.v,t.light.v]) rfl rfl Aw5 rfl rfl rfl hx26 (by rfl) (fun h=>by cases h) (fun w hm=>Ah3 (hm.at (.head _))) (Ak2 rfl) (by simp only [maxLen];omega) (by omega) rfl (fun z34 hz34=>(Aa5 (.cons .here rfl (.cons .here rfl (.cons .here rfl .nil))) (.cons .here rfl (.cons .here rfl (.cons .here rfl .nil))) rfl ?_))
      refine zt ?_;refine zB 27 ?_;have ez:(t.ways.l.map SA.cell).flatten++[t.fr.v,t.stay.v,t.light.v]=(t.all.map SA.cell).flatten:=by (simp [TrA.all,SA.cell])
      rw [ez] at hz34;have hz:OwnOk 1 z34 t.all.length (t.all.map SA.cell).flatten:=by (rw [hal];exact hz34)
      have e34:ownV z34 (t.ways.l.length + 3) = .slice (ownQ z34) t.all.length (ownC z34):=by (rw [Ad5 hz34,hal])
      simp only [ez];refine Ac4 rfl (zF rfl Am2) rfl rfl rfl (fun w hm=>(by rw [e34];have h9:=Af1 t.all (ownQ z34) (ownK z34) 0 (ownC z34) 164 #[.pointer (some ⟨b3,0,none⟩)] (fun x=>badRow t.fr.l.length x.l) w (Ah1 (f:=SA.cell) (fun _=>rfl) (by decide) hz (fun b o h=>hm.at (.tail _ (.tail _ (.tail _ ((by first | exact List.mem_append_left _ h | exact List.mem_append_right _ (List.mem_append_left _ h)))))))) (by omega) Ax1 (fun i h w2 h2=>Ai4 t.fr.l.length t.all[i] b3 w2 (h2.old_at (hm.at (.tail _ (.head _))) (by simp)) (((hT.mono0 hm).mono0 h2).all _ (List.getElem_mem h)) (hs.all _ (List.getElem_mem h)));rw [hB] at h9;exact h9)) (Ab5 ?_)
      refine zp 28 ?_;refine zp 29 ?_;refine zp 30 ?_;refine zd ?_;exact Ad3 () trivial rfl (zE 2 rfl (by simp_all <;> (try intros) <;> omega) (Sub.nil _)) .nil
     refine Ae0 rfl (New.buildSlice (parts:=[(0,.tmp 28),(1,.tmp 30),(2,.tmp 32)]) rfl Aq3 Ak5 rfl rfl rfl rfl) rfl rfl rfl (fun b33=>(Aa5 (.cons .here rfl (.cons .here rfl (.cons .here rfl .nil))) (.cons (.there .here) rfl (.cons (.there .here) rfl .nil)) rfl ?_))
     refine zA 17 ?_;refine Ae4 [(b33,_),(b3,_),(b1,_)] _ rfl rfl (zF rfl Am1) rfl rfl rfl (fun w hm=>Ae8 t.ways.l t.ways.q t.ways.b t.ways.o t.ways.c w (hT.ways.mono0 (by decide) hm) (by omega) hT.wq) (fun z26=>(Aa5 (.cons .here rfl (.cons .here rfl (.cons .here rfl .nil))) (.cons .here rfl (.cons .here rfl (.cons .here rfl .nil))) rfl ?_))
     obtain ⟨x26,hx26⟩:=z26;dsimp only;refine zA 25 ?_;refine Af2 (A:=[(b33,_),(b3,_),(b1,_)]) (B:=_) (x:=x26) (ys:=[t.fr.v,t.stay.v,t.light.v]) rfl rfl Aw5 rfl rfl rfl hx26 (by rfl) (fun h=>by cases h) (fun w hm=>Ah3 (hm.at (.head _))) (Ak2 rfl) (by simp only [maxLen];omega) (by omega) rfl (fun z34 hz34=>(Aa5 (.cons .here rfl (.cons .here rfl (.cons .here rfl .nil))) (.cons .here rfl (.cons .here rfl (.cons .here rfl .nil))) rfl ?_))
     refine zt ?_;refine zB 27 ?_;have ez:(t.ways.l.map SA.cell).flatten++[t.fr.v,t.stay.v,t.light.v]=(t.all.map SA.cell).flatten:=by (simp [TrA.all,SA.cell])
     rw [ez] at hz34;have hz:OwnOk 1 z34 t.all.length (t.all.map SA.cell).flatten:=by (rw [hal];exact hz34)
     have e34:ownV z34 (t.ways.l.length + 3) = .slice (ownQ z34) t.all.length (ownC z34):=by (rw [Ad5 hz34,hal])
     simp only [ez];refine Ac4 rfl (zF rfl Am2) rfl rfl rfl (fun w hm=>(by rw [e34];have h9:=Af1 t.all (ownQ z34) (ownK z34) 0 (ownC z34) 164 #[.pointer (some ⟨b3,0,none⟩)] (fun x=>badRow t.fr.l.length x.l) w (Ah1 (f:=SA.cell) (fun _=>rfl) (by decide) hz (fun b o h=>hm.at (.tail _ (.tail _ (.tail _ ((by first | exact List.mem_append_left _ h | exact List.mem_append_right _ (List.mem_append_left _ h)))))))) (by omega) Ax1 (fun i h w2 h2=>Ai4 t.fr.l.length t.all[i] b3 w2 (h2.old_at (hm.at (.tail _ (.head _))) (by simp)) (((hT.mono0 hm).mono0 h2).all _ (List.getElem_mem h)) (hs.all _ (List.getElem_mem h)));rw [hB] at h9;exact h9)) (Ab5 ?_)
     refine zp 28 ?_;refine zp 29 ?_;refine zp 30 ?_;refine zd ?_;exact Ad3 () trivial rfl (zE 2 rfl (by simp_all <;> (try intros) <;> omega) (Sub.nil _)) .nil
    intro g23;have g23':=g23;clear g23;try simp only [nH] at g23'
    refine zN 15 ?_;refine zN 16 ?_;refine zN 18 ?_;refine zN 19 ?_;refine zN 20 ?_;refine zN 21 ?_;refine zN 22 ?_;refine zN 23 ?_;refine zN 26 ?_;refine Ag5 (rs:=[17,24]) (by kernel_rfl) (by simp) (by kernel_rfl) (fun m hm=>?_)
    simp only [List.mem_cons,List.not_mem_nil,or_false] at hm
    rcases hm with rfl | rfl
    ·refine Ac6 rfl rfl rfl rfl (Aa5 (.cons .here rfl (.cons .here rfl .nil)) (.cons .here rfl (.cons .here rfl .nil)) rfl ?_)
     refine zA 24 ?_;refine Ac6 rfl rfl rfl rfl (Aa5 (.cons .here rfl (.cons .here rfl .nil)) (.cons .here rfl (.cons .here rfl .nil)) rfl ?_)
     refine zA 25 ?_;refine Ac6 rfl rfl rfl rfl (Aa5 (.cons .here rfl (.cons .here rfl .nil)) (.cons .here rfl (.cons .here rfl .nil)) rfl ?_)
     refine zt ?_;refine zB 27 ?_;refine Ac6 rfl rfl rfl rfl (Ab5 ?_)
     refine zB 28 ?_;refine Ac6 rfl rfl rfl rfl (Ab5 ?_)
     refine zp 29 ?_;refine zp 30 ?_;refine zd ?_;exact Ad3 () trivial rfl (zE 2 rfl (by simp_all <;> (try intros) <;> omega) (Sub.nil _)) .nil
    refine Ac6 rfl rfl rfl rfl (Aa5 (.cons .here rfl (.cons .here rfl .nil)) (.cons .here rfl (.cons .here rfl .nil)) rfl ?_)
    refine zA 17 ?_;refine Ac6 rfl rfl rfl rfl (Aa5 (.cons .here rfl (.cons .here rfl .nil)) (.cons .here rfl (.cons .here rfl .nil)) rfl ?_)
    refine zA 25 ?_;refine Ac6 rfl rfl rfl rfl (Aa5 (.cons .here rfl (.cons .here rfl .nil)) (.cons .here rfl (.cons .here rfl .nil)) rfl ?_)
    refine zt ?_;refine zB 27 ?_;refine Ac6 rfl rfl rfl rfl (Ab5 ?_)
    refine zB 28 ?_;refine Ac6 rfl rfl rfl rfl (Ab5 ?_)
    refine zp 29 ?_;refine zp 30 ?_;refine zd ?_;exact Ad3 () trivial rfl (zE 2 rfl (by simp_all <;> (try intros) <;> omega) (Sub.nil _)) .nil
   intro g18;have g18':=g18;clear g18;try simp only [nH] at g18'
   refine zN 10 ?_;refine zN 11 ?_;refine zA 12 ?_;refine Ac6 rfl rfl rfl rfl (Aa5 (.cons .here rfl (.cons .here rfl .nil)) (.cons .here rfl (.cons .here rfl .nil)) rfl ?_)
   refine zw 13 ?_;refine zw 14 ?_;refine Ah5 (dj:=23) rfl ?_ ?_
   ·intro g23
    have g23':=g23;clear g23;try simp only [nH] at g23'
    refine zw 15 ?_;refine zw 16 ?_;refine zw 18 ?_;refine zw 19 ?_;refine zw 20 ?_;refine zw 21 ?_;refine zw 22 ?_;refine zw 23 ?_;refine zw 26 ?_;refine Ag5 (rs:=[17,24]) (by kernel_rfl) (by simp) (by kernel_rfl) (fun m hm=>?_)
    simp only [List.mem_cons,List.not_mem_nil,or_false] at hm
    rcases hm with rfl | rfl
    ·refine Ae4 [(b3,_),(b1,_)] _ rfl rfl (zF rfl Am1) rfl rfl rfl (fun w hm=>Ae8 t.ways.l t.ways.q t.ways.b t.ways.o t.ways.c w (hT.ways.mono0 (by decide) hm) (by omega) hT.wq) (fun z26=>(Aa5 (.cons .here rfl (.cons .here rfl .nil)) (.cons .here rfl (.cons .here rfl .nil)) rfl ?_))
     obtain ⟨x26,hx26⟩:=z26;dsimp only;refine zA 24 ?_;refine Ae0 rfl (New.buildSlice (parts:=[(0,.tmp 28),(1,.tmp 30),(2,.tmp 32)]) rfl Aq3 Ak5 rfl rfl rfl rfl) rfl rfl rfl (fun b33=>(Aa5 (.cons .here rfl (.cons .here rfl (.cons .here rfl .nil))) (.cons (.there .here) rfl (.cons (.there .here) rfl .nil)) rfl ?_))
     refine zA 25 ?_;refine Af2 (A:=[(b33,_),(b3,_),(b1,_)]) (B:=_) (x:=x26) (ys:=[t.fr.v,t.stay.v,t.light.v]) rfl rfl Aw5 rfl rfl rfl hx26 (by rfl) (fun h=>by cases h) (fun w hm=>Ah3 (hm.at (.head _))) (Ak2 rfl) (by simp only [maxLen];omega) (by omega) rfl (fun z34 hz34=>(Aa5 (.cons .here rfl (.cons .here rfl (.cons .here rfl .nil))) (.cons .here rfl (.cons .here rfl (.cons .here rfl .nil))) rfl ?_))
     refine zt ?_;refine zB 27 ?_;have ez:(t.ways.l.map SA.cell).flatten++[t.fr.v,t.stay.v,t.light.v]=(t.all.map SA.cell).flatten:=by (simp [TrA.all,SA.cell])
     rw [ez] at hz34;have hz:OwnOk 1 z34 t.all.length (t.all.map SA.cell).flatten:=by (rw [hal];exact hz34)
     have e34:ownV z34 (t.ways.l.length + 3) = .slice (ownQ z34) t.all.length (ownC z34):=by (rw [Ad5 hz34,hal])
     simp only [ez];refine Ac4 rfl (zF rfl Am2) rfl rfl rfl (fun w hm=>(by rw [e34];have h9:=Af1 t.all (ownQ z34) (ownK z34) 0 (ownC z34) 164 #[.pointer (some ⟨b3,0,none⟩)] (fun x=>badRow t.fr.l.length x.l) w (Ah1 (f:=SA.cell) (fun _=>rfl) (by decide) hz (fun b o h=>hm.at (.tail _ (.tail _ (.tail _ ((by first | exact List.mem_append_left _ h | exact List.mem_append_right _ (List.mem_append_left _ h)))))))) (by omega) Ax1 (fun i h w2 h2=>Ai4 t.fr.l.length t.all[i] b3 w2 (h2.old_at (hm.at (.tail _ (.head _))) (by simp)) (((hT.mono0 hm).mono0 h2).all _ (List.getElem_mem h)) (hs.all _ (List.getElem_mem h)));rw [hB] at h9;exact h9)) (Ab5 ?_)
     refine zp 28 ?_;refine zp 29 ?_;refine zp 30 ?_;refine zd ?_;exact Ad3 () trivial rfl (zE 2 rfl (by simp_all <;> (try intros) <;> omega) (Sub.nil _)) .nil
    refine Ae0 rfl (New.buildSlice (parts:=[(0,.tmp 28),(1,.tmp 30),(2,.tmp 32)]) rfl Aq3 Ak5 rfl rfl rfl rfl) rfl rfl rfl (fun b33=>(Aa5 (.cons .here rfl (.cons .here rfl (.cons .here rfl .nil))) (.cons (.there .here) rfl (.cons (.there .here) rfl .nil)) rfl ?_))
    refine zA 17 ?_;refine Ae4 [(b33,_),(b3,_),(b1,_)] _ rfl rfl (zF rfl Am1) rfl rfl rfl (fun w hm=>Ae8 t.ways.l t.ways.q t.ways.b t.ways.o t.ways.c w (hT.ways.mono0 (by decide) hm) (by omega) hT.wq) (fun z26=>(Aa5 (.cons .here rfl (.cons .here rfl (.cons .here rfl .nil))) (.cons .here rfl (.cons .here rfl (.cons .here rfl .nil))) rfl ?_))
    obtain ⟨x26,hx26⟩:=z26;dsimp only;refine zA 25 ?_;refine Af2 (A:=[(b33,_),(b3,_),(b1,_)]) (B:=_) (x:=x26) (ys:=[t.fr.v,t.stay.v,t.light.v]) rfl rfl Aw5 rfl rfl rfl hx26 (by rfl) (fun h=>by cases h) (fun w hm=>Ah3 (hm.at (.head _))) (Ak2 rfl) (by simp only [maxLen];omega) (by omega) rfl (fun z34 hz34=>(Aa5 (.cons .here rfl (.cons .here rfl (.cons .here rfl .nil))) (.cons .here rfl (.cons .here rfl (.cons .here rfl .nil))) rfl ?_))
    refine zt ?_;refine zB 27 ?_;have ez:(t.ways.l.map SA.cell).flatten++[t.fr.v,t.stay.v,t.light.v]=(t.all.map SA.cell).flatten:=by (simp [TrA.all,SA.cell])
    rw [ez] at hz34;have hz:OwnOk 1 z34 t.all.length (t.all.map SA.cell).flatten:=by (rw [hal];exact hz34)
    have e34:ownV z34 (t.ways.l.length + 3) = .slice (ownQ z34) t.all.length (ownC z34):=by (rw [Ad5 hz34,hal])
    simp only [ez];refine Ac4 rfl (zF rfl Am2) rfl rfl rfl (fun w hm=>(by rw [e34];have h9:=Af1 t.all (ownQ z34) (ownK z34) 0 (ownC z34) 164 #[.pointer (some ⟨b3,0,none⟩)] (fun x=>badRow t.fr.l.length x.l) w (Ah1 (f:=SA.cell) (fun _=>rfl) (by decide) hz (fun b o h=>hm.at (.tail _ (.tail _ (.tail _ ((by first | exact List.mem_append_left _ h | exact List.mem_append_right _ (List.mem_append_left _ h)))))))) (by omega) Ax1 (fun i h w2 h2=>Ai4 t.fr.l.length t.all[i] b3 w2 (h2.old_at (hm.at (.tail _ (.head _))) (by simp)) (((hT.mono0 hm).mono0 h2).all _ (List.getElem_mem h)) (hs.all _ (List.getElem_mem h)));rw [hB] at h9;exact h9)) (Ab5 ?_)
    refine zp 28 ?_;refine zp 29 ?_;refine zp 30 ?_;refine zd ?_;exact Ad3 () trivial rfl (zE 2 rfl (by simp_all <;> (try intros) <;> omega) (Sub.nil _)) .nil
   intro g23;have g23':=g23;clear g23;try simp only [nH] at g23'
   refine zN 15 ?_;refine zN 16 ?_;refine zN 18 ?_;refine zN 19 ?_;refine zN 20 ?_;refine zN 21 ?_;refine zN 22 ?_;refine zN 23 ?_;refine zN 26 ?_;refine Ag5 (rs:=[17,24]) (by kernel_rfl) (by simp) (by kernel_rfl) (fun m hm=>?_)
   simp only [List.mem_cons,List.not_mem_nil,or_false] at hm
   rcases hm with rfl | rfl
   ·refine Ac6 rfl rfl rfl rfl (Aa5 (.cons .here rfl (.cons .here rfl .nil)) (.cons .here rfl (.cons .here rfl .nil)) rfl ?_)
    refine zA 24 ?_;refine Ac6 rfl rfl rfl rfl (Aa5 (.cons .here rfl (.cons .here rfl .nil)) (.cons .here rfl (.cons .here rfl .nil)) rfl ?_)
    refine zA 25 ?_;refine Ac6 rfl rfl rfl rfl (Aa5 (.cons .here rfl (.cons .here rfl .nil)) (.cons .here rfl (.cons .here rfl .nil)) rfl ?_)
    refine zt ?_;refine zB 27 ?_;refine Ac6 rfl rfl rfl rfl (Ab5 ?_)
    refine zB 28 ?_;refine Ac6 rfl rfl rfl rfl (Ab5 ?_)
    refine zp 29 ?_;refine zp 30 ?_;refine zd ?_;exact Ad3 () trivial rfl (zE 2 rfl (by simp_all <;> (try intros) <;> omega) (Sub.nil _)) .nil
   refine Ac6 rfl rfl rfl rfl (Aa5 (.cons .here rfl (.cons .here rfl .nil)) (.cons .here rfl (.cons .here rfl .nil)) rfl ?_)
   refine zA 17 ?_;refine Ac6 rfl rfl rfl rfl (Aa5 (.cons .here rfl (.cons .here rfl .nil)) (.cons .here rfl (.cons .here rfl .nil)) rfl ?_)
   refine zA 25 ?_;refine Ac6 rfl rfl rfl rfl (Aa5 (.cons .here rfl (.cons .here rfl .nil)) (.cons .here rfl (.cons .here rfl .nil)) rfl ?_)
   refine zt ?_;refine zB 27 ?_;refine Ac6 rfl rfl rfl rfl (Ab5 ?_)
   refine zB 28 ?_;refine Ac6 rfl rfl rfl rfl (Ab5 ?_)
   refine zp 29 ?_;refine zp 30 ?_;refine zd ?_;exact Ad3 () trivial rfl (zE 2 rfl (by simp_all <;> (try intros) <;> omega) (Sub.nil _)) .nil
  intro u uI;refine su ?_;exact Aa4 (.r1 rfl (.tmp rfl)) (by first | rfl | simp)
theorem Ap1 (m s:Sp) (h:0≤m.lo∧m.lo≤1000000∧0≤m.hi∧m.hi≤1000000) (h2:0≤s.lo∧s.lo≤s.hi∧s.hi≤1440) (W:World):Calls Tryz.prog 144 #[.agg #[.int .i64 m.lo,.int .i64 m.hi],.agg #[.int .i64 s.lo,.int .i64 s.hi]] W (Pure (.agg #[.int .i64 (afterX m s).lo,.int .i64 (afterX m s).hi]) W):=by
  refine Aa2 Tryz.func144 rfl rfl ?_;refine st ?_;refine zn (New.box rfl) (fun b2=>?_)
  refine zn (New.box rfl) (fun b3=>?_)
  refine zn (New.alloc Al5) (fun b4=>?_)
  refine lu (Val.add rfl rfl (IntWalk.i64_in _ ⟨by omega,by omega⟩)) ?_;refine lv (Val.add rfl rfl (IntWalk.i64_in _ ⟨by omega,by omega⟩)) ?_;refine lv (Val.build (parts:=[(0,.tmp 9),(1,.tmp 14)]) rfl Al5 Ay6 rfl) ?_;refine Ab4 (Sto.store rfl rfl .here Ak9 rfl rfl) rfl rfl ?_;refine su ?_;exact Aa4 (.r1 rfl (.agg rfl (.head _) Ak9 rfl)) (by first | rfl | simp)
theorem AM9 (m:Sp) (n:Int) (W:World):Calls Tryz.prog 212 #[.agg #[.int .i64 m.lo,.int .i64 m.hi],.int .i64 n] W (Pure (.agg #[.int .i64 (fromX m n).lo,.int .i64 (fromX m n).hi]) W):=by
  refine Aa2 Tryz.func212 rfl rfl ?_;refine st ?_;refine zn (New.box rfl) (fun b2=>?_)
  refine zn (New.alloc Al5) (fun b4=>?_)
  refine lu (Val.max rfl rfl) ?_;refine lv (Val.max rfl rfl) ?_;refine lv (Val.build (parts:=[(0,.tmp 8),(1,.tmp 12)]) rfl Al5 Ay6 rfl) ?_;refine Ab4 (Sto.store rfl rfl .here Ak9 rfl rfl) rfl rfl ?_;refine su ?_;exact Aa4 (.r1 rfl (.agg rfl (.head _) Ak9 rfl)) (by first | rfl | simp)
section
variable (t:TrA) (hv:TV t.pl) (bt:Nat) (W:World) (hb:W.heap[bt]? = some (tO t)) (hT:TrOk W t)
include hv hb hT
theorem AM5 (v:Nat) (hvn:v < t.fr.l.length) (m:Sp):Calls Tryz.prog 143 #[.agg #[],pV bt,.int .i64 (v:Int),.agg #[.int .i64 m.lo,.int .i64 m.hi]] W (Pure (.bool (sureX t.pl v m)) W):=by
  have hvl:v < t.light.l.length:=by rw [show t.light.l.length=t.fr.l.length from hv.lightL];exact hvn
  obtain ⟨s,hs⟩:∃ s,t.light.l[v]=s:=⟨_,rfl⟩;have hsd:t.pl.light.getD v zS=s:=(Ai5 hvl).trans hs;refine Aa2 Tryz.func143 rfl rfl ?_;refine st ?_;refine zn (New.box rfl) (fun b4=>?_)
  refine zn (New.box rfl) (fun b7=>?_)
  refine Ae9 11 As5 (.cons .here rfl (.cons .here rfl .nil)) ?_;refine zw 0 ?_;refine zw 1 ?_;refine zw 2 ?_;refine zw 3 ?_;refine zw 4 ?_;refine zw 5 ?_;refine zv 6 rfl (Aa9 rfl hb (by simp) Az9 rfl) ?_;refine zw 7 ?_;refine zv 8 rfl (Aa6 rfl rfl Av4 (by omega) (by omega) (Sl.ptrM hT.light hvl)) ?_;refine zw 9 ?_;refine zv 10 rfl (Ab2 rfl (fun w hm=>Sl.cellX hT.light hm (by simp) Af4 hvl hs (j:=1) (by decide) rfl)) ?_;refine zt ?_;refine zp 11 ?_;refine zp 12 ?_;refine zd ?_;refine su ?_;exact Aa4 (.r1 rfl (.tmp rfl)) (by unfold sureX;rw [hsd])
theorem BI4 (v:Nat) (hvn:v < t.fr.l.length) (m:Sp):Calls Tryz.prog 303 #[.agg #[],pV bt,.int .i64 (v:Int),.agg #[.int .i64 m.lo,.int .i64 m.hi]] W (Pure (.bool (canX t.pl v m)) W):=by
  have hvl:v < t.light.l.length:=by rw [show t.light.l.length=t.fr.l.length from hv.lightL];exact hvn
  obtain ⟨s,hs⟩:∃ s,t.light.l[v]=s:=⟨_,rfl⟩;have hsd:t.pl.light.getD v zS=s:=(Ai5 hvl).trans hs;refine Aa2 Tryz.func303 rfl rfl ?_;refine st ?_;refine zn (New.box rfl) (fun b4=>?_)
  refine zn (New.box rfl) (fun b7=>?_)
  refine Ae9 11 As5 (.cons .here rfl (.cons .here rfl .nil)) ?_;refine zw 0 ?_;refine zw 1 ?_;refine zw 2 ?_;refine zw 3 ?_;refine zw 4 ?_;refine zw 5 ?_;refine zv 6 rfl (Aa9 rfl hb (by simp) Az9 rfl) ?_;refine zw 7 ?_;refine zv 8 rfl (Aa6 rfl rfl Av4 (by omega) (by omega) (Sl.ptrM hT.light hvl)) ?_;refine zw 9 ?_;refine zv 10 rfl (Ab2 rfl (fun w hm=>Sl.cellX hT.light hm (by simp) Af4 hvl hs (j:=1) (by decide) rfl)) ?_;refine zt ?_;refine zp 11 ?_;refine zp 12 ?_;refine zd ?_;refine su ?_;exact Aa4 (.r1 rfl (.tmp rfl)) (by unfold canX;rw [hsd])
end
end Go.Proofs.YtmkdbdbenfbkhaaGreatDoor
namespace Go.Wk
open Go Go.Eng Go.RowKit Go.Bk
abbrev mnV (m:Sp):Value:=.agg #[.int .i64 m.lo,.int .i64 m.hi]
abbrev mnO (m:Sp):Obj:=.cells [Value.int .i64 m.lo,.int .i64 m.hi].toArray 202 (0,0)
abbrev x2O (bt:Nat):Obj:=.cells [pV bt].toArray 85 (0,0)
abbrev x3O (q:Option Addr) (n cap:Nat):Obj:=.cells [Value.slice q n cap].toArray 26 (0,0)
def natC (v:Nat):List Value:=[.int .i64 (v:Int)]
def nowX (t:Tr):List (Nat×Sp)→Sp→Sp
  | [],m=>m
  | s::l,_=>nowX t l (afterX s.2 (t.stay.getD s.1 zS))
def lastX:List (Nat×Sp)→Int→Int
  | [],f=>f
  | s::l,_=>lastX l (s.1:Int)
theorem AB2 (t:Tr):∀ (a b:List Nat) (fr:Int) (m:Sp),stepsX t fr m (a++b)=stepsX t fr m a++stepsX t (lastX (stepsX t fr m a) fr) (nowX t (stepsX t fr m a) m) b
  | [],_,_,_=>rfl
  | v::a,b,fr,m=>by
    show (v,beginX t fr v m)::stepsX t (v:Int) _ (a++b)=_
    rw [AB2 t a b];rfl
theorem Bn4 (s:Nat×Sp):∀ (l:List (Nat×Sp)) (f:Int),lastX (l++[s]) f=(s.1:Int)
  | [],_=>rfl
  | _::l,_=>Bn4 s l _
theorem BF2 (t:Tr) (s:Nat×Sp):∀ (l:List (Nat×Sp)) (m:Sp),nowX t (l++[s]) m=afterX s.2 (t.stay.getD s.1 zS)
  | [],_=>rfl
  | _::l,_=>BF2 t s l _
theorem BJ3 (t:Tr) (fr:Int) (m:Sp) {l:List Nat} {k:Nat} (hk:k < l.length):stepsX t fr m (l.take (k + 1))=stepsX t fr m (l.take k)++[(l[k],beginX t (lastX (stepsX t fr m (l.take k)) fr) l[k] (nowX t (stepsX t fr m (l.take k)) m))]:=by
  rw [List.take_succ_eq_append_getElem hk,AB2];rfl
end Go.Wk
namespace Go.Proofs.YtmkdbdbenfbkhaaGreatDoor
open Go Go.Eng Go.Bk Go.Wk
section
variable (t:TrA) (hv:TV t.pl) (bt:Nat) (W:World) (hb:W.heap[bt]? = some (tO t)) (hT:TrOk W t)
include hv hb hT
theorem AH6 (fr:Int) (v:Nat) (hvn:v < t.fr.l.length) (hfr:fr = -1∨∃ u:Nat,fr=u∧u < t.fr.l.length) (m:Sp) (hm1:0≤m.lo∧m.lo≤900000∧0≤m.hi∧m.hi≤900000):Calls Tryz.prog 142 #[pV bt,.int .i64 fr,.int .i64 (v:Int),mnV m] W (Pure (mnV (beginX t.pl fr v m)) W):=by
  have hvl:v < t.light.l.length:=by rw [show t.light.l.length=t.fr.l.length from hv.lightL];exact hvn
  obtain ⟨s,hs⟩:∃ s,t.light.l[v]=s:=⟨_,rfl⟩;have hsd:t.pl.light.getD v zS=s:=(Ai5 hvl).trans hs;have hway:=hv.way hvn hfr;obtain ⟨f,hf⟩:∃ s,t.fr.l[v]=s:=⟨_,rfl⟩;have hfd:t.pl.fr.getD v zS=f:=(Ai5 hvn).trans hf
  rcases hfr with rfl | ⟨u,rfl,hu⟩
  · have hwx:wayX t.pl (-1) v=f:=by unfold wayX;rw [if_pos rfl,hfd]
    rw [hwx] at hway;refine Aa2 Tryz.func142 rfl rfl ?_;refine st ?_;refine zn (New.box rfl) (fun b7=>?_)
    refine zn (New.alloc Al5) (fun b8=>?_)
    refine lv (Aa9 rfl hb (by simp) Az9 rfl) ?_;refine lv (Aa6 rfl rfl Av4 (by omega) (by omega) (Sl.ptrM hT.fr hvn)) ?_;refine lv (Ab2 rfl (fun w hm=>Sl.loadX hT.fr (by decide) hm (by simp) Ah0 hvn hf)) ?_;refine zn (New.alloc Ag0) (fun b9=>?_)
    refine Ab4 (Sto.store rfl rfl .here Ah0 rfl rfl) rfl rfl ?_;refine st ?_;refine RunC.cond rfl (fun h=>absurd h (by simp)) ?_;intro c0;clear c0;refine su ?_;refine zc (zF rfl AR1) (fun w hm=>Ap1 m f (by omega) hway w) ?_;refine lv (Aa9 rfl hb (by simp) Az9 rfl) ?_;refine lu (Aa6 rfl rfl Av4 (by omega) (by omega) (Sl.ptrM hT.light hvl)) ?_;refine lv (Ab2 rfl (fun w hm=>Sl.cellX hT.light hm (by simp) Af4 hvl hs (j:=0) (by decide) rfl)) ?_;refine Ab1 (Ac1 rfl rfl Cb6) rfl rfl rfl (fun w hm=>AM9 (afterX m f) s.lo w) ?_;refine Ab4 (Sto.store rfl rfl (.there .here) Ak9 rfl rfl) rfl rfl ?_;refine su ?_;exact Aa4 (.r1 rfl (.agg rfl (.tail _ (.head _)) Ak9 rfl)) (by unfold beginX;rw [hwx,hsd])
  · have huw:u < t.ways.l.length:=by rw [show t.ways.l.length=t.pl.ways.length by simp [TrA.pl],hv.ways];exact hu
    obtain ⟨row,hrow⟩:∃ r,t.ways.l[u]=r:=⟨_,rfl⟩;have hrm:row∈t.ways.l:=hrow ▸ List.getElem_mem huw
    have hrd:t.pl.ways.getD ((u:Int)).toNat []=row.l:=by
      show (t.ways.l.map (·.l)).getD u []=row.l
      rw [Ai5 (by rw [List.length_map];exact huw),List.getElem_map,hrow]
    have hrl:v < row.l.length:=by
      have h9:=hv.rows row.l (by show row.l∈t.ways.l.map (·.l);exact List.mem_map.2 ⟨row,hrm,rfl⟩);rw [h9];exact hvn
    have hR:=hT.rows row hrm;obtain ⟨g,hg⟩:∃ s,row.l[v]=s:=⟨_,rfl⟩;have hwx:wayX t.pl (u:Int) v=g:=by unfold wayX;rw [if_neg (by omega),hrd];exact (Ai5 hrl).trans hg
    rw [hwx] at hway;refine Aa2 Tryz.func142 rfl rfl ?_;refine st ?_;refine zn (New.box rfl) (fun b7=>?_)
    refine zn (New.alloc Al5) (fun b8=>?_)
    refine lv (Aa9 rfl hb (by simp) Az9 rfl) ?_;refine lv (Aa6 rfl rfl Av4 (by omega) (by omega) (Sl.ptrM hT.fr hvn)) ?_;refine lv (Ab2 rfl (fun w hm=>Sl.loadX hT.fr (by decide) hm (by simp) Ah0 hvn hf)) ?_;refine zn (New.alloc Ag0) (fun b9=>?_)
    refine Ab4 (Sto.store rfl rfl .here Ah0 rfl rfl) rfl rfl ?_;refine st ?_;refine RunC.cond rfl ?_ (fun h=>absurd h (by simp))
    intro c0;clear c0;refine su ?_;refine lv (Aa9 rfl hb (by simp) Cx0 rfl) ?_;refine lv (Aa6 rfl rfl Aq3 (by omega) (by omega) (Sl.ptrM hT.ways huw)) ?_;refine lv (Ab2 rfl (fun w hm=>Sl.cellX hT.ways hm (by simp) Az9 huw hrow (j:=0) (by decide) rfl)) ?_;refine lv (Aa6 rfl rfl Av4 (by omega) (by omega) (Sl.ptrM hR hrl)) ?_;refine lv (Ab2 rfl (fun w hm=>Sl.loadX hR (by decide) hm (by simp) Ah0 hrl hg)) ?_;refine Ab4 (Sto.store rfl rfl .here Ah0 rfl rfl) rfl rfl ?_;refine su ?_;refine zc (zF rfl AR1) (fun w hm=>Ap1 m g (by omega) hway w) ?_;refine lv (Aa9 rfl hb (by simp) Az9 rfl) ?_;refine lu (Aa6 rfl rfl Av4 (by omega) (by omega) (Sl.ptrM hT.light hvl)) ?_;refine lv (Ab2 rfl (fun w hm=>Sl.cellX hT.light hm (by simp) Af4 hvl hs (j:=0) (by decide) rfl)) ?_;refine Ab1 (Ac1 rfl rfl Cb6) rfl rfl rfl (fun w hm=>AM9 (afterX m g) s.lo w) ?_;refine Ab4 (Sto.store rfl rfl (.there .here) Ak9 rfl rfl) rfl rfl ?_;refine su ?_;exact Aa4 (.r1 rfl (.agg rfl (.tail _ (.head _)) Ak9 rfl)) (by unfold beginX;rw [hwx,hsd])
end
end Go.Proofs.YtmkdbdbenfbkhaaGreatDoor
namespace Go.Wk
open Go Go.Eng Go.RowKit Go.Bk
abbrev Me:=Nat×Sp
abbrev encM (x:Me):List Value:=[.int .i64 (x.1:Int),mnV x.2]
theorem Bj2 (t:Tr):∀ (l:List Nat) (fr:Int) (m:Sp),(stepsX t fr m l).length=l.length
  | [],_,_=>rfl
  | v::l,_,_=>congrArg (· + 1) (Bj2 t l _ _)
theorem AN7 (t:Tr):∀ (l:List Nat) (fr:Int) (m:Sp),(stepsX t fr m l).map (·.1)=l
  | [],_,_=>rfl
  | v::l,_,_=>congrArg (v::·) (AN7 t l _ _)
theorem BW2 {n:Nat}:∀ (L:List Me) (f:Int),(∀ x∈L,x.1 < n)→(f = -1∨∃ u:Nat,f=u∧u < n)→lastX L f = -1∨∃ u:Nat,lastX L f=u∧u < n
  | [],_,_,h=>h
  | x::L,_,hL,_=>BW2 L _ (fun y hy=>hL y (List.mem_cons_of_mem _ hy)) (.inr ⟨x.1,rfl,hL x (List.mem_cons_self ..)⟩)
theorem Ct4 {t:Tr} (hv:TV t):∀ (l:List Nat) (fr:Int) (m:Sp) (B:Int),(∀ v∈l,v < t.fr.length)→(fr = -1∨∃ u:Nat,fr=u∧u < t.fr.length)→0≤m.lo→m.lo≤B→0≤m.hi→m.hi≤B→0≤B →
    0≤(nowX t (stepsX t fr m l) m).lo∧(nowX t (stepsX t fr m l) m).lo≤B + 2880 * l.length∧0≤(nowX t (stepsX t fr m l) m).hi∧(nowX t (stepsX t fr m l) m).hi≤B + 2880 * l.length
  | [],_,m,B,_,_,h1,h2,h3,h4,_=>⟨h1,by simpa [nowX,stepsX] using h2,h3,by simpa [nowX,stepsX] using h4⟩
  | v::l,fr,m,B,hl,hf,h1,h2,h3,h4,hB=>by
    have hvn:=hl v (List.mem_cons_self ..);have hb:=hv.begins hvn hf h1 h2 h3 h4 hB;have hs:=hv.stayB hvn;have h9:=Ct4 hv l (v:Int) (afterX (beginX t fr v m) (t.stay.getD v zS)) (B + 2880) (fun u hu=>hl u (List.mem_cons_of_mem _ hu)) (.inr ⟨v,rfl,hvn⟩) (by unfold afterX;dsimp only;omega) (by unfold afterX;dsimp only;omega) (by unfold afterX;dsimp only;omega) (by unfold afterX;dsimp only;omega) (by omega);rw [show B + 2880 + 2880 * ((l.length:Nat):Int)=B + 2880 * ((l.length + 1:Nat):Int) by omega] at h9;exact h9
def SpW (t:Tr) (l:List Nat) (xs:List Me):Prop:=∃ k,k≤l.length∧xs=stepsX t (-1) ⟨t.dawn,t.dawn⟩ (l.take k)
end Go.Wk
namespace Go.Proofs.YtmkdbdbenfbkhaaGreatDoor
open Go Go.Eng Go.Bk Go.Wk
set_option maxHeartbeats 1000000 in
theorem BR7 (t:TrA) (hv:TV t.pl) (bt:Nat) (W0:World) (hb:W0.heap[bt]? = some (tO t)) (hT:TrOk W0 t) (l:List Nat) (hl:l.length≤6) (hin:∀ v∈l,v < t.fr.l.length) (q:Option Addr) (b o cap:Nat) (hSl:Sl W0 q b o 1 (l.map natC)) (x2 x6 x3:Nat) (m0:Sp) :
    SeqQ Tryz.prog 168 #[pV x2,pV x6,pV x3] encM (fun _=>[]) [(x2,x2O bt),(x6,mnO m0),(x3,x3O q l.length cap)] wmisf (fun xs=>xs=stepsX t.pl (-1) ⟨t.dawn,t.dawn⟩ l) (SpW t.pl l) (fun _ _=>False) l.length W0:=by
  intro X yl U I Ix Ip rest w0 u0 hy i0 hm0;have hm1:Mem W0 [] ((x6,mnO m0)::(x2,x2O bt)::(x3,x3O q l.length cap)::(U u0++(rest++[]))) w0:=hm0.pick (Pick.cnt fun x=>by simp only [List.nil_append,List.cons_append,List.count_append,List.count_cons,List.count_nil];omega);have hdw:=hv.dawn;have hdw2:0≤t.dawn∧t.dawn≤1440:=hdw;refine Al2 (vs:=[.func (.yield yl) #[] #[],pV x2,pV x6,pV x3]) hm1 Tryz.func168 rfl rfl (AF7 ?_) 8
  refine RunC.seq ?_;refine Ae9 13 As5 (.cons (.there .here) rfl (.cons (.there .here) rfl .nil)) ?_;refine va 0 rfl (Aa1 rfl (.head _) As6 rfl) rfl rfl rfl (.cons (.there .here) rfl (.cons (.there .here) rfl .nil)) rfl ?_;refine va 1 rfl (Aa8 rfl) rfl rfl rfl (.cons (.there .here) rfl (.cons (.there .here) rfl .nil)) rfl ?_;refine va 2 rfl (Val.fieldAddr rfl Au2) rfl rfl rfl (.cons (.there .here) rfl (.cons (.there .here) rfl .nil)) rfl ?_;refine va 3 rfl (Val.fieldAddr rfl AL7) rfl rfl rfl (.cons (.there .here) rfl (.cons (.there .here) rfl .nil)) rfl ?_;refine va 4 rfl (Aa9 rfl hb (by simp) Af4 rfl) rfl rfl rfl (.cons (.there .here) rfl (.cons (.there .here) rfl .nil)) rfl ?_;refine va 5 rfl (Aa1 rfl (.head _) As6 rfl) rfl rfl rfl (.cons (.there .here) rfl (.cons (.there .here) rfl .nil)) rfl ?_;refine va 6 rfl (Aa8 rfl) rfl rfl rfl (.cons (.there .here) rfl (.cons (.there .here) rfl .nil)) rfl ?_;refine va 7 rfl (Val.fieldAddr rfl Au2) rfl rfl rfl (.cons (.there .here) rfl (.cons (.there .here) rfl .nil)) rfl ?_;refine va 8 rfl (Val.fieldAddr rfl AL7) rfl rfl rfl (.cons (.there .here) rfl (.cons (.there .here) rfl .nil)) rfl ?_;refine va 9 rfl (Aa9 rfl hb (by simp) Af4 rfl) rfl rfl rfl (.cons (.there .here) rfl (.cons (.there .here) rfl .nil)) rfl ?_;refine RunA.one (i:=10) (by kernel_rfl) (by kernel_rfl) ?_;refine Ag9 rfl (Sto.store rfl rfl .here Ak9 rfl rfl) rfl rfl (Aa5 (.cons (.there .here) rfl (.cons (.there .here) rfl .nil)) (.cons .here rfl (.cons .here rfl .nil)) rfl ?_)
  refine va 11 rfl (Val.fieldAddr rfl Bp9) rfl rfl rfl (.cons (.there .here) rfl (.cons (.there .here) rfl .nil)) rfl ?_;refine RunA.one (i:=12) (by kernel_rfl) (by kernel_rfl) ?_;refine Ag9 rfl (Sto.store rfl rfl .here Af4 rfl rfl) rfl rfl (Aa5 (.cons (.there .here) rfl (.cons (.there .here) rfl .nil)) (.cons .here rfl (.cons .here rfl .nil)) rfl ?_)
  refine Af3 (by kernel_rfl) ?_;refine RunB.one (i:=13) (by kernel_rfl) ?_;refine Ac2 rfl (Val.fieldAddr rfl Bp8) rfl rfl rfl (Ab5 ?_)
  refine RunB.one (i:=14) (by kernel_rfl) ?_;refine Ag9 rfl (Sto.store rfl rfl .here Af4 rfl rfl) rfl rfl (Ab5 ?_)
  refine RunB.done (by kernel_rfl) ?_;refine RunE.next ?_;refine csr ?_;refine vp rfl rfl rfl rfl ?_;refine nsr ?_;refine Aa0 (Aa1 rfl (.tail _ (.tail _ (.head _))) As7 rfl) rfl rfl rfl ?_;refine Aa0 (Ad7 rfl Ak6) rfl rfl rfl ?_;refine vp rfl rfl rfl rfl ?_;refine nnx ?_;refine RunC.block ?_;refine Ak3 (Ad8 _) (news':=[(x6,mnO (nowX t.pl (stepsX t.pl (-1) ⟨t.dawn,t.dawn⟩ (l.take 0)) ⟨t.dawn,t.dawn⟩)),(x2,x2O bt),(x3,x3O q l.length cap)]++(U u0++(rest++[]))) (.cons .here rfl (.cons .here rfl (.cons .here rfl (Pick.refl _)))) ?_;refine Aj3 (X:=X) (n0:=[(x2,x2O bt),(x3,x3O q l.length cap)]) (l.length) (fun k y q=>(23,.int .i64 (k:Int))::(5,.int .i64 (lastX (stepsX t.pl (-1) ⟨t.dawn,t.dawn⟩ (l.take k)) (-1)))::q) (fun _ _=>_) (fun k y=>[(x6,mnO (nowX t.pl (stepsX t.pl (-1) ⟨t.dawn,t.dawn⟩ (l.take k)) ⟨t.dawn,t.dawn⟩))]) (fun k y=>U y++(rest++[])) (fun k y=>I (stepsX t.pl (-1) ⟨t.dawn,t.dawn⟩ (l.take k)) y) u0 i0 rfl (Ac8 (t:=23) rfl rfl (Ac8 (t:=5) rfl rfl (Sub.cons (t:=0) rfl (Sub.cons (t:=1) rfl (Sub.cons (t:=2) rfl (Sub.cons (t:=3) rfl (Sub.cons (t:=21) rfl (Sub.cons (t:=22) rfl (Sub.nil _))))))))) (Pick.cnt fun x=>by simp only [nC];omega) ?_;intro k y kN kI;refine csr ?_;refine vp rfl rfl rfl rfl ?_;refine nnx ?_;refine RunC.seq ?_;refine RunC.cond rfl ?_ ?_
  ·intro c0
   have c0':=c0;clear c0;try simp only [nH] at c0'
   have hk:k < l.length:=by omega
   obtain ⟨v,hvd⟩:∃ v,l[k]=v:=⟨_,rfl⟩;have hvn:v < t.fr.l.length:=hin v (hvd ▸ List.getElem_mem hk);have hstp:=BJ3 t.pl (-1) ⟨t.dawn,t.dawn⟩ hk;rw [hvd] at hstp;have hlst:lastX (stepsX t.pl (-1) ⟨t.dawn,t.dawn⟩ (l.take (k + 1))) (-1)=(v:Int):=by rw [hstp,Bn4]
   have hnow1:(nowX t.pl (stepsX t.pl (-1) ⟨t.dawn,t.dawn⟩ (l.take (k + 1))) ⟨t.dawn,t.dawn⟩)=afterX (beginX t.pl (lastX (stepsX t.pl (-1) ⟨t.dawn,t.dawn⟩ (l.take k)) (-1)) v (nowX t.pl (stepsX t.pl (-1) ⟨t.dawn,t.dawn⟩ (l.take k)) ⟨t.dawn,t.dawn⟩)) (t.pl.stay.getD v zS):=by rw [hstp,BF2]
   have hfr:(lastX (stepsX t.pl (-1) ⟨t.dawn,t.dawn⟩ (l.take k)) (-1)) = -1∨∃ u:Nat,(lastX (stepsX t.pl (-1) ⟨t.dawn,t.dawn⟩ (l.take k)) (-1))=u∧u < t.fr.l.length:=BW2 _ _ (fun x hx=>hin x.1 (by have h9:x.1∈(stepsX t.pl (-1) ⟨t.dawn,t.dawn⟩ (l.take k)).map (·.1):=List.mem_map.2 ⟨x,hx,rfl⟩;rw [AN7] at h9;exact List.mem_of_mem_take h9)) (.inl rfl);have hnb:=Ct4 hv (l.take k) (-1) ⟨t.dawn,t.dawn⟩ 1440 (fun u hu=>hin u (List.mem_of_mem_take hu)) (.inl rfl) hdw2.1 hdw2.2 hdw2.1 hdw2.2 (by decide);rw [List.length_take] at hnb;have hab:=hv.begins (m:=(nowX t.pl (stepsX t.pl (-1) ⟨t.dawn,t.dawn⟩ (l.take k)) ⟨t.dawn,t.dawn⟩)) (B:=100000) hvn hfr (by omega) (by omega) (by omega) (by omega) (by decide);have hvs:v < t.stay.l.length:=by rw [show t.stay.l.length=t.fr.l.length from hv.stayL];exact hvn
   obtain ⟨s,hst⟩:∃ s,t.stay.l[v]=s:=⟨_,rfl⟩;have hsd:t.pl.stay.getD v zS=s:=(Ai5 hvs).trans hst;have hsb:=hv.stayB hvn;rw [hsd] at hsb hnow1;refine RunC.skip ?_;refine RunE.next ?_;refine RunC.seq ?_;refine RunC.block ?_;refine csr ?_;refine Aa0 (Aa6 rfl rfl Ak6 (by omega) (by omega) (hSl.ptrM hk)) rfl rfl rfl ?_;refine Aa0 (Ab2 rfl (fun w hm=>hSl.cellX hm (by simp) Af4 hk hvd (j:=0) (by decide) rfl)) rfl rfl rfl ?_;refine vp rfl rfl rfl rfl ?_;refine nsr ?_;refine Aa0 (Aa1 rfl (.tail _ (.head _)) As6 rfl) rfl rfl rfl ?_;refine vp rfl rfl rfl rfl ?_;refine vp rfl rfl rfl rfl ?_;refine Aa0 (Ab6 rfl (.head _) Ak9 rfl) rfl rfl rfl ?_;refine Ab1 (Ab7 rfl Cd2) rfl rfl rfl (fun w hm=>(AH6 t hv bt w (hm.old_at hb (by simp)) (hT.mono0 hm) (lastX (stepsX t.pl (-1) ⟨t.dawn,t.dawn⟩ (l.take k)) (-1)) v hvn hfr (nowX t.pl (stepsX t.pl (-1) ⟨t.dawn,t.dawn⟩ (l.take k)) ⟨t.dawn,t.dawn⟩) (by omega))) ?_;refine Ac3 (New.alloc Al5) rfl rfl rfl (fun b8=>?_)
   refine Ab4 (Sto.store rfl rfl .here Ak9 rfl rfl) rfl rfl ?_;refine nnx ?_;refine RunC.seq ?_;refine RunC.seq ?_;refine Bh8 ?_;refine RunCR.region ?_;refine Ad0 (Aa8 rfl) rfl rfl rfl ?_;refine Ad0 (Aa8 rfl) rfl rfl rfl ?_;refine Ad0 (Ab6 rfl (.head _) Ak9 rfl) rfl rfl rfl ?_;refine Ap6 (Ae2 rfl rfl) rfl rfl rfl (fun w hm=>(Ah6 (α:=Me) (encs:=encM) (eb:=fun _=>[]) (U:=U) (I:=I) (Ix:=Ix) (Ip:=Ip) (pre:=(stepsX t.pl (-1) ⟨t.dawn,t.dawn⟩ (l.take k))) (v:=(v,(beginX t.pl (lastX (stepsX t.pl (-1) ⟨t.dawn,t.dawn⟩ (l.take k)) (-1)) v (nowX t.pl (stepsX t.pl (-1) ⟨t.dawn,t.dawn⟩ (l.take k)) ⟨t.dawn,t.dawn⟩)))) (N':=fun x=>(b8,mnO (beginX t.pl (lastX (stepsX t.pl (-1) ⟨t.dawn,t.dawn⟩ (l.take k)) (-1)) v (nowX t.pl (stepsX t.pl (-1) ⟨t.dawn,t.dawn⟩ (l.take k)) ⟨t.dawn,t.dawn⟩)))::(x6,mnO (nowX t.pl (stepsX t.pl (-1) ⟨t.dawn,t.dawn⟩ (l.take k)) ⟨t.dawn,t.dawn⟩))::(x2,x2O bt)::(x3,x3O q l.length cap)::(U x++(rest++[]))) (tl:=(b8,mnO (beginX t.pl (lastX (stepsX t.pl (-1) ⟨t.dawn,t.dawn⟩ (l.take k)) (-1)) v (nowX t.pl (stepsX t.pl (-1) ⟨t.dawn,t.dawn⟩ (l.take k)) ⟨t.dawn,t.dawn⟩)))::(x6,mnO (nowX t.pl (stepsX t.pl (-1) ⟨t.dawn,t.dawn⟩ (l.take k)) ⟨t.dawn,t.dawn⟩))::(x2,x2O bt)::(x3,x3O q l.length cap)::rest) (fun x=>(Pick.cnt fun x=>by simp only [nC];omega)) (hy (stepsX t.pl (-1) ⟨t.dawn,t.dawn⟩ (l.take k)) (v,(beginX t.pl (lastX (stepsX t.pl (-1) ⟨t.dawn,t.dawn⟩ (l.take k)) (-1)) v (nowX t.pl (stepsX t.pl (-1) ⟨t.dawn,t.dawn⟩ (l.take k)) ⟨t.dawn,t.dawn⟩))) y ((b8,mnO (beginX t.pl (lastX (stepsX t.pl (-1) ⟨t.dawn,t.dawn⟩ (l.take k)) (-1)) v (nowX t.pl (stepsX t.pl (-1) ⟨t.dawn,t.dawn⟩ (l.take k)) ⟨t.dawn,t.dawn⟩)))::(x6,mnO (nowX t.pl (stepsX t.pl (-1) ⟨t.dawn,t.dawn⟩ (l.take k)) ⟨t.dawn,t.dawn⟩))::(x2,x2O bt)::(x3,x3O q l.length cap)::rest) w kI ⟨k + 1,hk,hstp.symm⟩ (by rw [Bj2,List.length_take];omega) ((show Mem W0 [] ((b8,mnO (beginX t.pl (lastX (stepsX t.pl (-1) ⟨t.dawn,t.dawn⟩ (l.take k)) (-1)) v (nowX t.pl (stepsX t.pl (-1) ⟨t.dawn,t.dawn⟩ (l.take k)) ⟨t.dawn,t.dawn⟩)))::(x6,mnO (nowX t.pl (stepsX t.pl (-1) ⟨t.dawn,t.dawn⟩ (l.take k)) ⟨t.dawn,t.dawn⟩))::(x2,x2O bt)::(x3,x3O q l.length cap)::(U y++(rest++[]))) w from hm).pick (Pick.cnt fun x=>by simp only [nC];omega))))) (fun p35 hp35=>?_) (fun z35 hz35=>?_)
   ·refine Aa7 ?_
    refine Aa7 ?_;refine Ad1 ?_;refine Aa7 ?_;refine Aa7 ?_;refine Ad1 ?_;exact fun _ w s=>⟨s.defers,p35.2,s.mem.pick (Pick.cnt fun x=>by simp only [nC];omega),.inr (.inl ⟨p35.1,rfl,hp35⟩)⟩
   refine Ad0 (Aa8 rfl) rfl rfl rfl ?_;refine RunLR.nil ?_;refine RunE.next ?_;refine RunC.cond rfl ?_ ?_
   ·intro c1
    have c1':=c1;clear c1;try simp only [nH] at c1'
    replace hz35:Ix z35.2:=(hz35.resolve_left (fun h=>by rw [show z35.1=false by simpa using c1'] at h;cases h.1)).2
    refine RunC.ret ?_;refine Ab8 ?_;refine Ac5 ?_;refine Ab8 ?_;refine Ab8 ?_;refine Ac5 ?_;exact RunE.ret (chg:=[]) (.r0 rfl) (fun _ hm=>⟨z35.2,hm.pick (Pick.cnt fun x=>by simp only [nC];omega),.inl ⟨_,rfl,.inr hz35⟩⟩)
   intro c1;have c1':=c1;clear c1;try simp only [nH] at c1'
   replace hz35:=hz35.resolve_right (fun h=>by rw [show z35.1=true by simpa using c1'] at h;cases h.1)
   replace hz35:I ((stepsX t.pl (-1) ⟨t.dawn,t.dawn⟩ (l.take k))++[(v,(beginX t.pl (lastX (stepsX t.pl (-1) ⟨t.dawn,t.dawn⟩ (l.take k)) (-1)) v (nowX t.pl (stepsX t.pl (-1) ⟨t.dawn,t.dawn⟩ (l.take k)) ⟨t.dawn,t.dawn⟩)))]) z35.2∧True:=⟨hz35.2,trivial⟩
   refine RunC.skip ?_;refine RunE.next ?_;refine Ae9 12 As5 (.cons .here rfl (.cons (.there .here) rfl (.cons (.there .here) rfl .nil))) ?_;refine va 0 rfl (Ab6 rfl (.head _) Ak9 rfl) rfl rfl rfl (.cons .here rfl (.cons (.there .here) rfl (.cons (.there .here) rfl .nil))) rfl ?_;refine va 1 rfl (Aa1 rfl (.tail _ (.head _)) As6 rfl) rfl rfl rfl (.cons .here rfl (.cons (.there .here) rfl (.cons (.there .here) rfl .nil))) rfl ?_;refine va 2 rfl (Aa8 rfl) rfl rfl rfl (.cons .here rfl (.cons (.there .here) rfl (.cons (.there .here) rfl .nil))) rfl ?_;refine va 3 rfl (Val.fieldAddr rfl Au2) rfl rfl rfl (.cons .here rfl (.cons (.there .here) rfl (.cons (.there .here) rfl .nil))) rfl ?_;refine va 4 rfl (Val.fieldAddr rfl Be2) rfl rfl rfl (.cons .here rfl (.cons (.there .here) rfl (.cons (.there .here) rfl .nil))) rfl ?_;refine va 5 rfl (Aa9 rfl hb (by simp) Az9 rfl) rfl rfl rfl (.cons .here rfl (.cons (.there .here) rfl (.cons (.there .here) rfl .nil))) rfl ?_;refine va 6 rfl (Aa8 rfl) rfl rfl rfl (.cons .here rfl (.cons (.there .here) rfl (.cons (.there .here) rfl .nil))) rfl ?_;refine va 7 rfl (Aa6 rfl rfl Av4 (by omega) (by omega) (Sl.ptrM hT.stay hvs)) rfl rfl rfl (.cons .here rfl (.cons (.there .here) rfl (.cons (.there .here) rfl .nil))) rfl ?_;refine va 8 rfl (Ab2 rfl (fun w hm=>Sl.loadX hT.stay (by decide) hm (by simp) Ah0 hvs hst)) rfl rfl rfl (.cons .here rfl (.cons (.there .here) rfl (.cons (.there .here) rfl .nil))) rfl ?_;refine va 10 rfl (Aa8 rfl) rfl rfl rfl (.cons .here rfl (.cons (.there .here) rfl (.cons (.there .here) rfl .nil))) rfl ?_;refine RunA.one (i:=9) (by kernel_rfl) (by kernel_rfl) ?_;refine Ac4 rfl (Ab7 rfl AR1) rfl rfl rfl (fun w hm=>Ap1 (beginX t.pl (lastX (stepsX t.pl (-1) ⟨t.dawn,t.dawn⟩ (l.take k)) (-1)) v (nowX t.pl (stepsX t.pl (-1) ⟨t.dawn,t.dawn⟩ (l.take k)) ⟨t.dawn,t.dawn⟩)) s (by omega) hsb w) (Aa5 (.cons .here rfl (.cons (.there .here) rfl (.cons (.there .here) rfl .nil))) (.cons .here rfl (.cons .here rfl (.cons .here rfl .nil))) rfl ?_)
   refine RunA.one (i:=11) (by kernel_rfl) (by kernel_rfl) ?_;refine Ag9 rfl (Sto.store rfl rfl (.there .here) Ak9 rfl rfl) rfl rfl (Aa5 (.cons .here rfl (.cons (.there .here) rfl (.cons (.there .here) rfl .nil))) (.cons .here rfl (.cons .here rfl (.cons .here rfl .nil))) rfl ?_)
   refine Af3 (by kernel_rfl) ?_;refine RunB.one (i:=12) (by kernel_rfl) ?_;refine Ac2 rfl (Aa8 rfl) rfl rfl rfl (Ab5 ?_)
   refine RunB.done (by kernel_rfl) ?_;refine Ac0 ?_;refine RunE.next ?_;refine RunC.region ?_;refine Aa0 (Val.add rfl rfl (IntWalk.i64_in _ ⟨by omega,by omega⟩)) rfl rfl rfl ?_;refine vp rfl rfl rfl rfl ?_;refine RunL.nil ?_;exact Ae7 z35.2 (by omega) (by rw [hstp];exact hz35.1) rfl (Ac8 (t:=23) rfl rfl (Ac8 (t:=5) rfl (by rw [hlst]) (Sub.cons (t:=0) rfl (Sub.cons (t:=1) rfl (Sub.cons (t:=2) rfl (Sub.cons (t:=3) rfl (Sub.cons (t:=21) rfl (Sub.cons (t:=22) rfl (Sub.nil _))))))))) (.cons (.there .here) (by rw [hnow1]) (.cons (.there .here) rfl (.cons (.there .here) rfl (Pick.skip (Pick.refl _)))))
  intro c0;have c0':=c0;clear c0;try simp only [nH] at c0'
  obtain rfl:k=l.length:=by omega
  rw [List.take_length] at kI;refine RunC.exit ?_;refine Ac7 ?_;refine Ac7 ?_;refine Ab0 ?_;exact Ah7 (chg:=[]) (.r0 rfl) (fun _ hm=>⟨y,hm.pick (Pick.cnt fun x=>by simp only [nC];omega),.inl ⟨_,rfl,.inl ⟨_,rfl,kI⟩⟩⟩)
end Go.Proofs.YtmkdbdbenfbkhaaGreatDoor
