/- Walks of package walk: whether a walk is such. Printed by mk_wd.py. -/
import Derived.Test.YtmkdbdbenfbkhaaGreatDoorY04
set_option linter.unusedSimpArgs false
set_option linter.unusedVariables false
set_option linter.unusedSectionVars false
namespace Go.Wk
open Go Go.Eng Go.RowKit Go.Bk
theorem BR6 (t:Tr) (fr:Int) (m:Sp) (l:List Nat) (k:Nat):∃ z,stepsX t fr m l=stepsX t fr m (l.take k)++z :=
  ⟨_,(by rw [← AB2,List.take_append_drop])⟩
theorem CK3 {t:Tr} {q:Tr→Nat→Sp→Bool} {l:List Nat} {pre:List Me} {v:Me} {k:Nat} (h:pre++[v]=stepsX t (-1) ⟨t.dawn,t.dawn⟩ (l.take k)) (hq:q t v.1 v.2=false):isX t q l=false:=by
  obtain ⟨z,hz⟩:=BR6 t (-1) ⟨t.dawn,t.dawn⟩ l k;unfold isX;rw [hz,← h];simp [hq]
theorem Ct8 {t:Tr} {q:Tr→Nat→Sp→Bool} {l:List Nat} (h:∀ s∈stepsX t (-1) ⟨t.dawn,t.dawn⟩ l,q t s.1 s.2=true):isX t q l=true:=by
  unfold isX;exact List.all_eq_true.2 h
theorem BS0 {t:Tr} {l:List Nat} {n:Nat} (hin:∀ v∈l,v < n) {pre:List Me} {v:Me} {k:Nat} (h:pre++[v]=stepsX t (-1) ⟨t.dawn,t.dawn⟩ (l.take k)):v.1 < n:=by
  have h1:v.1∈(stepsX t (-1) ⟨t.dawn,t.dawn⟩ (l.take k)).map (·.1):=by rw [← h];simp
  rw [AN7] at h1;exact hin _ (List.mem_of_mem_take h1)
end Go.Wk
namespace Go.Proofs.YtmkdbdbenfbkhaaGreatDoor
open Go Go.Eng Go.Bk Go.Wk
-- By6
section
variable (t:TrA) (hv:TV t.pl) (bt:Nat) (W:World) (hb:W.heap[bt]? = some (tO t)) (hT:TrOk W t)
include hv hb hT
omit hv hT in
theorem AM4 (q:Option Addr) (n cap:Nat):Calls Tryz.prog 104 #[pV bt,.slice q n cap] W (News (fun z:Nat×Nat×Nat=>.tuple #[.func (.func 168) #[] #[pV z.1,pV z.2.1,pV z.2.2],.func (.func 169) #[] #[pV z.2.1]]) (fun z=>[(z.1,x2O bt),(z.2.1,mnO ⟨t.dawn,t.dawn⟩),(z.2.2,x3O q n cap)]) W):=by
  refine Aa2 Tryz.func104 rfl rfl ?_;refine st ?_;refine zn (New.box rfl) (fun b2=>?_)
  refine zn (New.box rfl) (fun b3=>?_)
  refine Ae9 12 As5 (.cons .here rfl (.cons .here rfl .nil)) ?_;refine zw 0 ?_;refine zw 1 ?_;refine zw 2 ?_;refine zw 3 ?_;refine zv 4 rfl (Aa9 rfl hb (by simp) Af4 rfl) ?_;refine zw 5 ?_;refine zw 6 ?_;refine zw 7 ?_;refine zw 8 ?_;refine zv 9 rfl (Aa9 rfl hb (by simp) Af4 rfl) ?_;refine zv 10 rfl (Val.build (parts:=[(0,.tmp 11),(1,.tmp 16)]) rfl Al5 Ay6 rfl) ?_;refine zA 11 ?_;refine Ae0 rfl (New.alloc Al5) rfl rfl rfl (fun b6=>(Aa5 (.cons .here rfl (.cons .here rfl (.cons .here rfl .nil))) (.cons (.there .here) rfl (.cons (.there .here) rfl .nil)) rfl ?_))
  refine zt ?_;refine zB 12 ?_;refine Ag9 rfl (Sto.store rfl rfl .here Ak9 rfl rfl) rfl rfl (Ab5 ?_)
  refine zd ?_;refine su ?_;exact RunE.ret (chg:=[]) (.r2 rfl (.tmp rfl) (.tmp rfl)) (fun _ hm=>⟨(b2,b6,b3),rfl,hm.pick (.cons (.there (.there .here)) rfl (.cons .here rfl (.cons .here rfl .nil)))⟩)
set_option maxHeartbeats 1000000 in
theorem Ci6 (l:List Nat) (hl:l.length≤6) (hin:∀ v∈l,v < t.fr.l.length) (q:Option Addr) (b o cap:Nat) (hSl:Sl W q b o 1 (l.map natC)):Calls Tryz.prog 35 #[pV bt,.slice q l.length cap,.iface 93 (.agg #[])] W (Pure (.bool (isX t.pl sureX l)) W):=by
  refine Ai9 Tryz.func35 rfl rfl ?_;refine csr ?_;refine Ac3 (New.box rfl) rfl rfl rfl (fun b3=>?_)
  refine Ac3 (New.box rfl) rfl rfl rfl (fun b5=>?_)
  refine Ac3 (New.alloc Cr2) rfl rfl rfl (fun b6=>?_)
  refine nsr ?_;refine Aa0 (Aa1 rfl (.tail _ (.tail _ (.head _))) As6 rfl) rfl rfl rfl ?_;refine vp rfl rfl rfl rfl ?_;refine As3 (Ab7 rfl Ce1) rfl rfl rfl (fun w hm=>AM4 t bt w (hm.old_at hb (by simp)) q l.length cap) (fun z14=>?_)
  obtain ⟨y2,y6,y3⟩:=z14;dsimp only
  iterate 5 refine vp rfl rfl rfl rfl ?_
  refine nnx ?_;refine RunC.seq ?_;refine csr ?_;refine vp rfl rfl rfl rfl ?_;refine nnx ?_;refine RunC.block ?_;refine Ak3 (Ad8 _) (news':=[(b6,.cells [Value.bool false].toArray 4 (0,0)),(b3,x2O bt),(b5,.cells [Value.iface 93 (.agg #[])].toArray 196 (0,0)),(y2,x2O bt),(y6,mnO ⟨t.dawn,t.dawn⟩),(y3,x3O q l.length cap)]++([])) (.cons .here rfl (.cons (.there .here) rfl (.cons .here rfl (.cons .here rfl (.cons .here rfl (.cons .here rfl .nil)))))) ?_;refine AC4 (α:=Me) (X:=Unit) (Y:=Nat) (encs:=encM) (fun v y q=>(9,.int .i64 (v.1:Int))::(10,pV y)::q) (fun v y=>[(y,mnO v.2)]) (fun x=>[(b3,x2O bt),(b5,.cells [Value.iface 93 (.agg #[])].toArray 196 (0,0)),(b6,.cells [Value.bool false].toArray 4 (0,0))]) (fun pre _=>∀ s∈pre,sureX t.pl s.1 s.2=true) (fun c _=>c = .ret∧isX t.pl sureX l=false) () (fun _ h=>by cases h) ([]) (Sub.cons (t:=3) rfl (Sub.cons (t:=5) rfl (Sub.cons (t:=6) rfl (Sub.nil _)))) (Pick.cnt fun x=>by simp only [nC,mnO];omega) (fun _=>rfl) rfl rfl By6 (BR7 t hv bt W hb hT l hl hin q b o cap hSl y2 y6 y3 (Sp.mk t.dawn t.dawn)) ?_ ?_ ?_ ?_
  ·intro l D ob pre v x tl hI hsp
   refine RunCR.seq ?_;refine Ad4 ?_;refine vp rfl rfl rfl rfl ?_;refine RunL.nil ?_;refine RunER.next ?_;refine Ad4 ?_;refine Ac3 (New.alloc Al5) rfl rfl rfl (fun b10=>?_)
   refine Ab4 (Sto.store rfl rfl .here Ak9 rfl rfl) rfl rfl ?_;refine RunL.nil ?_;exact Ax9 b10 (Ac8 (t:=9) rfl rfl (Ac8 (t:=10) rfl rfl (Sub.cons (t:=3) rfl (Sub.cons (t:=5) rfl (Sub.cons (t:=6) rfl (Sub.nil _)))))) (Pick.cnt fun x=>by simp only [nC,mnO];omega)
  ·intro l D ob pre v y x tl hI hsp hlen
   obtain ⟨k2,hk2,hpk⟩:=hsp;have hvn:=BS0 hin hpk;refine RunCR.block ?_;refine RunCR.seq ?_;refine Ad4 ?_;refine Aa0 (Aa1 rfl (.tail _ (.tail _ (.tail _ (.tail _ (.head _))))) BQ5 rfl) rfl rfl rfl ?_;refine Aa0 (Aa1 rfl (.tail _ (.tail _ (.tail _ (.head _)))) As6 rfl) rfl rfl rfl ?_;refine vp rfl rfl rfl rfl ?_;refine Aa0 (Ab6 rfl (.head _) Ak9 rfl) rfl rfl rfl ?_;refine Ab1 (Aq8 rfl rfl (fun w=>Aq5 _ w) Cd1) rfl rfl rfl (fun w hm=>(AM5 t hv bt w (hm.old_at hb (by simp)) (hT.mono0 hm) v.1 hvn v.2)) ?_;refine vp rfl rfl rfl rfl ?_;refine RunL.nil ?_;refine RunER.next ?_;refine RunCR.cond rfl ?_ ?_
   ·intro c0
    have c0':=c0;clear c0;try simp only [nH] at c0'
    refine RunCR.seq ?_;refine Ad4 ?_;refine Ab4 (Sto.store rfl rfl (.there (.there (.there (.there (.there .here))))) Cj2 rfl rfl) rfl rfl ?_;refine RunL.nil ?_;refine RunER.next ?_;refine RunCR.ret ?_;refine Ac5 ?_;exact Ah8 () ⟨rfl,CK3 hpk (by simpa using c0')⟩ (Pick.cnt fun x=>by simp only [nC,mnO];omega)
   intro c0;have c0':=c0;clear c0;try simp only [nH] at c0'
   refine RunCR.skip ?_;refine Ac0 ?_;exact Af9 () (fun s hs=>by rcases List.mem_append.1 hs with h | h;exact hI s h;rw [List.mem_singleton.1 h];simpa using c0') (Pick.cnt fun x=>by simp only [nC,mnO];omega)
  ·intro D xs x hS hI
   have hyes:isX t.pl sureX l=true:=Ct8 (by subst hS;exact hI);refine Ac0 ?_;refine RunE.next ?_;refine csr ?_;refine Ab4 (Sto.store rfl rfl (.there (.there (.there .here))) Cj2 rfl rfl) rfl rfl ?_;refine nnx ?_;refine RunC.ret ?_;exact Au8 [D] (.cons .here rfl (.cons .here rfl (.cons .here rfl (.cons .here rfl .nil)))) (.r1 rfl (.one rfl (.tail _ (.tail _ (.head _))) Cj2 rfl)) (Ay8 (by rw [hyes]))
  intro D c x hst;obtain ⟨rfl,hno⟩:=hst;refine RunC.ret ?_;refine Ac5 ?_;refine Ab8 ?_;exact Au8 [D] (.cons .here rfl (.cons .here rfl (.cons .here rfl (.cons .here rfl .nil)))) (.r1 rfl (.one rfl (.tail _ (.tail _ (.head _))) Cj2 rfl)) (Ay8 (by rw [hno]))
set_option maxHeartbeats 1000000 in
theorem BP4 (l:List Nat) (hl:l.length≤6) (hin:∀ v∈l,v < t.fr.l.length) (q:Option Addr) (b o cap:Nat) (hSl:Sl W q b o 1 (l.map natC)):Calls Tryz.prog 35 #[pV bt,.slice q l.length cap,.iface 94 (.agg #[])] W (Pure (.bool (isX t.pl canX l)) W):=by
  refine Ai9 Tryz.func35 rfl rfl ?_;refine csr ?_;refine Ac3 (New.box rfl) rfl rfl rfl (fun b3=>?_)
  refine Ac3 (New.box rfl) rfl rfl rfl (fun b5=>?_)
  refine Ac3 (New.alloc Cr2) rfl rfl rfl (fun b6=>?_)
  refine nsr ?_;refine Aa0 (Aa1 rfl (.tail _ (.tail _ (.head _))) As6 rfl) rfl rfl rfl ?_;refine vp rfl rfl rfl rfl ?_;refine As3 (Ab7 rfl Ce1) rfl rfl rfl (fun w hm=>AM4 t bt w (hm.old_at hb (by simp)) q l.length cap) (fun z14=>?_)
  obtain ⟨y2,y6,y3⟩:=z14;dsimp only
  iterate 5 refine vp rfl rfl rfl rfl ?_
  refine nnx ?_;refine RunC.seq ?_;refine csr ?_;refine vp rfl rfl rfl rfl ?_;refine nnx ?_;refine RunC.block ?_;refine Ak3 (Ad8 _) (news':=[(b6,.cells [Value.bool false].toArray 4 (0,0)),(b3,x2O bt),(b5,.cells [Value.iface 94 (.agg #[])].toArray 196 (0,0)),(y2,x2O bt),(y6,mnO ⟨t.dawn,t.dawn⟩),(y3,x3O q l.length cap)]++([])) (.cons .here rfl (.cons (.there .here) rfl (.cons .here rfl (.cons .here rfl (.cons .here rfl (.cons .here rfl .nil)))))) ?_;refine AC4 (α:=Me) (X:=Unit) (Y:=Nat) (encs:=encM) (fun v y q=>(9,.int .i64 (v.1:Int))::(10,pV y)::q) (fun v y=>[(y,mnO v.2)]) (fun x=>[(b3,x2O bt),(b5,.cells [Value.iface 94 (.agg #[])].toArray 196 (0,0)),(b6,.cells [Value.bool false].toArray 4 (0,0))]) (fun pre _=>∀ s∈pre,canX t.pl s.1 s.2=true) (fun c _=>c = .ret∧isX t.pl canX l=false) () (fun _ h=>by cases h) ([]) (Sub.cons (t:=3) rfl (Sub.cons (t:=5) rfl (Sub.cons (t:=6) rfl (Sub.nil _)))) (Pick.cnt fun x=>by simp only [nC,mnO];omega) (fun _=>rfl) rfl rfl By6 (BR7 t hv bt W hb hT l hl hin q b o cap hSl y2 y6 y3 (Sp.mk t.dawn t.dawn)) ?_ ?_ ?_ ?_
  ·intro l D ob pre v x tl hI hsp
   refine RunCR.seq ?_;refine Ad4 ?_;refine vp rfl rfl rfl rfl ?_;refine RunL.nil ?_;refine RunER.next ?_;refine Ad4 ?_;refine Ac3 (New.alloc Al5) rfl rfl rfl (fun b10=>?_)
   refine Ab4 (Sto.store rfl rfl .here Ak9 rfl rfl) rfl rfl ?_;refine RunL.nil ?_;exact Ax9 b10 (Ac8 (t:=9) rfl rfl (Ac8 (t:=10) rfl rfl (Sub.cons (t:=3) rfl (Sub.cons (t:=5) rfl (Sub.cons (t:=6) rfl (Sub.nil _)))))) (Pick.cnt fun x=>by simp only [nC,mnO];omega)
  ·intro l D ob pre v y x tl hI hsp hlen
   obtain ⟨k2,hk2,hpk⟩:=hsp;have hvn:=BS0 hin hpk;refine RunCR.block ?_;refine RunCR.seq ?_;refine Ad4 ?_;refine Aa0 (Aa1 rfl (.tail _ (.tail _ (.tail _ (.tail _ (.head _))))) BQ5 rfl) rfl rfl rfl ?_;refine Aa0 (Aa1 rfl (.tail _ (.tail _ (.tail _ (.head _)))) As6 rfl) rfl rfl rfl ?_;refine vp rfl rfl rfl rfl ?_;refine Aa0 (Ab6 rfl (.head _) Ak9 rfl) rfl rfl rfl ?_;refine Ab1 (Aq8 rfl rfl (fun w=>Aq4 _ w) CA1) rfl rfl rfl (fun w hm=>(BI4 t hv bt w (hm.old_at hb (by simp)) (hT.mono0 hm) v.1 hvn v.2)) ?_;refine vp rfl rfl rfl rfl ?_;refine RunL.nil ?_;refine RunER.next ?_;refine RunCR.cond rfl ?_ ?_
   ·intro c0
    have c0':=c0;clear c0;try simp only [nH] at c0'
    refine RunCR.seq ?_;refine Ad4 ?_;refine Ab4 (Sto.store rfl rfl (.there (.there (.there (.there (.there .here))))) Cj2 rfl rfl) rfl rfl ?_;refine RunL.nil ?_;refine RunER.next ?_;refine RunCR.ret ?_;refine Ac5 ?_;exact Ah8 () ⟨rfl,CK3 hpk (by simpa using c0')⟩ (Pick.cnt fun x=>by simp only [nC,mnO];omega)
   intro c0;have c0':=c0;clear c0;try simp only [nH] at c0'
   refine RunCR.skip ?_;refine Ac0 ?_;exact Af9 () (fun s hs=>by rcases List.mem_append.1 hs with h | h;exact hI s h;rw [List.mem_singleton.1 h];simpa using c0') (Pick.cnt fun x=>by simp only [nC,mnO];omega)
  ·intro D xs x hS hI
   have hyes:isX t.pl canX l=true:=Ct8 (by subst hS;exact hI);refine Ac0 ?_;refine RunE.next ?_;refine csr ?_;refine Ab4 (Sto.store rfl rfl (.there (.there (.there .here))) Cj2 rfl rfl) rfl rfl ?_;refine nnx ?_;refine RunC.ret ?_;exact Au8 [D] (.cons .here rfl (.cons .here rfl (.cons .here rfl (.cons .here rfl .nil)))) (.r1 rfl (.one rfl (.tail _ (.tail _ (.head _))) Cj2 rfl)) (Ay8 (by rw [hyes]))
  intro D c x hst;obtain ⟨rfl,hno⟩:=hst;refine RunC.ret ?_;refine Ac5 ?_;refine Ab8 ?_;exact Au8 [D] (.cons .here rfl (.cons .here rfl (.cons .here rfl (.cons .here rfl .nil)))) (.r1 rfl (.one rfl (.tail _ (.tail _ (.head _))) Cj2 rfl)) (Ay8 (by rw [hno]))
end
end Go.Proofs.YtmkdbdbenfbkhaaGreatDoor
namespace Go.Wk
open Go Go.Eng Go.RowKit Go.Bk
abbrev ON (l:List Nat):={ z:Eng.Own // OwnOk 1 z l.length (l.map natC).flatten }
theorem BV4 (l:List Nat):(l.map natC).flatten.length=l.length * 1:=AE8 (f:=natC) (sz:=1) (fun _=>rfl) l
theorem Cm5 (l:List Nat) (v:Nat):(l.map natC).flatten++natC v=((l++[v]).map natC).flatten:=by simp [natC]
theorem Ap3 {sz n:Nat} {z:Eng.Own} {xs:List Value} (h:OwnOk sz z n xs):ownQ z=none→n=0∧ownC z=0:=fun e=>by
  match z,h,e with
  | none,h,_=>exact ⟨h.nil rfl,rfl⟩
theorem Br4 (l:List Nat) (v:Nat):decide (0≤idxX (l.map fun (n:Nat)=>(n:Int)) (v:Int))=l.contains v:=by
  rw [BX0];unfold idxI;rw [At6,any_map];rw [Bool.eq_iff_iff];simp only [List.any_eq_true,decide_eq_true_eq,List.contains_iff_mem]
  constructor
  · rintro ⟨x,hx,h⟩
    obtain rfl:v=x:=by omega
    exact hx
  · exact fun h=>⟨v,h,rfl⟩
/-! ## All tours -/
abbrev Er:=List Nat×Eng.Own
abbrev encR (x:Er):List Value:=[ownV x.2 x.1.length]
abbrev ebR (T:TypeId) (x:Er):Blks:=ownB T x.2 (x.1.map natC).flatten
def SpR (n:Nat) (total:List (List Nat)) (xs:List Er):Prop:=∀ x∈xs,x.1∈total∧(x.1.length=n∧∀ v∈x.1,v < n)∧OwnOk 1 x.2 x.1.length (x.1.map natC).flatten
theorem SpR.snoc {n:Nat} {total:List (List Nat)} {xs:List Er} (h:SpR n total xs) {x:Er} (h1:x.1∈total) (h2:x.1.length=n∧∀ v∈x.1,v < n) (h3:OwnOk 1 x.2 x.1.length (x.1.map natC).flatten):SpR n total (xs++[x]):=fun y hy=>by
  rcases List.mem_append.1 hy with hy | hy
  · exact h y hy
  · rw [List.mem_singleton.1 hy];exact ⟨h1,h2,h3⟩
def nextX (n f:Nat) (l:List Nat) (v:Nat):List (List Nat):=if l.contains v then [] else toursX n f (l++[v])
theorem BQ7 {n f:Nat} {l:List Nat} (h:l.length ≠ n):toursX n (f + 1) l=(List.range n).flatMap (nextX n f l):=by
  show (if l.length=n then [l] else _)=_
  rw [if_neg h];rfl
theorem Bj0 {n f:Nat} {l:List Nat} (h:l.length=n):toursX n f l=[l]:=by
  cases f <;> · unfold toursX;rw [if_pos h]
def restX (n f:Nat) (l:List Nat) (k:Nat):List (List Nat):=((List.range n).drop k).flatMap (nextX n f l)
def doneX (n f:Nat) (l:List Nat) (k:Nat):List (List Nat):=((List.range n).take k).flatMap (nextX n f l)
theorem Cv1 {n f:Nat} {l:List Nat} {k:Nat} (hk:k < n):doneX n f l (k + 1)=doneX n f l k++nextX n f l k:=by
  unfold doneX;rw [List.take_succ_eq_append_getElem (by rw [List.length_range];exact hk),List.flatMap_append,List.getElem_range];simp
theorem Cp5 {n f:Nat} {l:List Nat}:doneX n f l n=(List.range n).flatMap (nextX n f l):=by
  unfold doneX;rw [List.take_of_length_le (by rw [List.length_range];exact Nat.le_refl _)]
theorem Cj3 {n f:Nat} {l:List Nat} {k:Nat} (hk:k < n):(List.range n).flatMap (nextX n f l)=doneX n f l k++(nextX n f l k++restX n f l (k + 1)):=by
  unfold doneX restX
  conv=>lhs;rw [← List.take_append_drop k (List.range n),List.drop_eq_getElem_cons (by rw [List.length_range];exact hk)]
  rw [List.flatMap_append,List.flatMap_cons,List.getElem_range]
end Go.Wk
namespace Go.Proofs.YtmkdbdbenfbkhaaGreatDoor
open Go Go.Eng Go.Bk Go.Wk
theorem AR5 (l:List Nat) (q:Option Addr) (b o c:Nat) (v:Nat) (W:World) (hS:Sl W q b o 1 (l.map natC)) (hl:l.length≤1000000):Calls Tryz.prog 103 #[.slice q l.length c,.int .i64 (v:Int)] W (Pure (.bool (l.contains v)) W):=by
  have hS2:Sl W q b o 1 ((l.map fun (n:Nat)=>(n:Int)).map intC):=by rw [List.map_map];exact hS
  refine Aa2 Tryz.func103 rfl rfl ?_;refine st ?_;refine zc (zF rfl By7) (fun w hm=>(by have h9:=Aw7 (l.map fun (n:Nat)=>(n:Int)) q b o c (v:Int) w (Sl.mono hS2 (by decide) hm (by simp)) (by rw [List.length_map];omega);rw [List.length_map] at h9;exact h9)) ?_;exact Aa4 (.r1 rfl (.tmp rfl)) (by rw [Br4])
theorem Br6 (l:List Nat) (hl:l.length≤1000) (q:Option Addr) (b o cap:Nat) (W:World) (hS:Sl W q b o 1 (l.map natC)) (hq0:q=none→l.length=0∧cap=0):Calls Tryz.prog 102 #[.slice q l.length cap] W (News (fun z:ON l=>ownV z.1 l.length) (fun z=>ownB 3 z.1 (l.map natC).flatten++[]) W):=by
  cases q with
  | none =>
    obtain ⟨h1,rfl⟩:=hq0 rfl;have h0:l=[]:=List.length_eq_zero_iff.1 h1;subst h0;refine Aa2 Tryz.func102 rfl rfl ?_;refine st ?_;refine lv (Aw1 rfl Cs8) ?_;refine RunC.cond rfl ?_ (fun h=>absurd h (by simp))
    intro c0;clear c0;refine su ?_;exact RunE.ret (chg:=[]) (.r1 rfl (.tmp rfl)) (fun _ hm=>⟨⟨none,OwnOk.start⟩,rfl,hm⟩)
  | some a =>
    refine Aa2 Tryz.func102 rfl rfl ?_;refine st ?_;refine lv (Ax4 rfl Cs8) ?_;refine RunC.cond rfl (fun h=>absurd h (by simp)) ?_;intro c0;clear c0;refine st ?_;refine zn (As4 Ak6) (fun b5=>?_)
    refine RunL.append (A:=[]) (B:=_) (x:=(some (b5,0,[]))) (ys:=(l.map natC).flatten) CG7 rfl rfl rfl OwnOk.empty (BV4 l) (fun h=>by cases h) (fun w hm=>(Sl.mono hS (by decide) hm (by simp)).flat (by decide)) (AL4 (f:=natC) (fun _=>rfl) l) (by simp only [maxLen];omega) (by omega) rfl (fun z7 hz7=>?_)
    refine su ?_;exact RunE.ret (chg:=[]) (.r1 rfl (.tmp rfl)) (fun _ hm=>⟨⟨z7,by simpa using hz7⟩,by simp,hm.pick (Pick.refl _)⟩)
end Go.Proofs.YtmkdbdbenfbkhaaGreatDoor
namespace Go.Wk
open Go Go.Eng Go.RowKit Go.Bk
abbrev Pl:=List Nat×Int
def cmpI (a b:Int):Int:=if a < b then -1 else if b < a then 1 else 0
theorem BA1 (a b:Int):-1≤cmpI a b∧cmpI a b≤1:=by unfold cmpI;split <;> (try split) <;> omega
def cmpL:List Nat→List Nat→Int
  | [],[]=>0
  | [],_::_=>-1
  | _::_,[]=>1
  | a::l,b::m=>if cmpI a b=0 then cmpL l m else cmpI a b
def cmpX (a b:Pl):Int:=if cmpI (-(a.1.length:Int)) (-(b.1.length:Int))=0 then (if cmpI a.2 b.2=0 then cmpL a.1 b.1 else cmpI a.2 b.2) else cmpI (-(a.1.length:Int)) (-(b.1.length:Int))
def least1 (f x:Pl):Pl:=if cmpX x f < 0 then x else f
def leastX (f:Pl) (l:List Pl):Pl:=l.foldl least1 f
def begB (t:Tr) (fr:Int) (v:Nat) (left:Int):Sp:=beginX t fr v ⟨left,left⟩
def goB (t:Tr) (seen:Nat) (fr:Int) (v:Nat) (left:Int):Bool:=!seen.testBit v && sureX t v (begB t fr v left)
def leftB (t:Tr) (fr:Int) (v:Nat) (left:Int):Int:=(afterX (begB t fr v left) (t.stay.getD v zS)).hi
def bestOn (t:Tr):Nat→Nat→Int→Int→Pl
  | 0,_,_,left=>([],left)
  | f + 1,seen,fr,left=>leastX ([],left) ((List.range t.fr.length).flatMap fun v=>if goB t seen fr v left=true then [(v::(bestOn t f (seen ||| 2 ^ v) (v:Int) (leftB t fr v left)).1,(bestOn t f (seen ||| 2 ^ v) (v:Int) (leftB t fr v left)).2)] else [])
def cntB (n seen:Nat):Nat:=(List.range n).countP fun v=>seen.testBit v
theorem BA0 (n seen:Nat):cntB n seen≤n:=by
  have:=List.countP_le_length (p:=fun v=>seen.testBit v) (l:=List.range n)
  rwa [List.length_range] at this
theorem Ce8 (n:Nat):cntB n 0=0:=by
  unfold cntB;rw [List.countP_eq_zero];intro v _;simp
theorem CO5 (seen v u:Nat):(seen ||| 2 ^ v).testBit u=(seen.testBit u || decide (v=u)):=by
  rw [Nat.testBit_or,Nat.testBit_two_pow]
theorem Bf5 {seen v:Nat} (h:seen.testBit v=false):∀ {n:Nat},cntB n (seen ||| 2 ^ v)=cntB n seen + (if v < n then 1 else 0)
  | 0=>rfl
  | n + 1=>by
    have ih:=Bf5 h (n:=n);unfold cntB at ih ⊢;rw [List.range_succ,List.countP_append,List.countP_append,ih,List.countP_singleton,List.countP_singleton,CO5]
    rcases Nat.lt_trichotomy v n with h1 | h1 | h1
    · have e:decide (v=n)=false:=by simp;omega
      rw [e,Bool.or_false];simp only [h1,show v < n + 1 by omega,if_true];omega
    · subst h1
      simp [h]
    · have e:decide (v=n)=false:=by simp;omega
      rw [e,Bool.or_false];simp only [show ¬ v < n by omega,show ¬ v < n + 1 by omega,if_false];omega
theorem CG0 {n seen v:Nat} (h:seen.testBit v=false) (hv:v < n):cntB n seen < n:=by
  have h1:=Bf5 h (n:=n);rw [if_pos hv] at h1
  have:=BA0 n (seen ||| 2 ^ v)
  omega
def bestS (t:Tr) (seen:Nat) (fr left:Int):Pl:=bestOn t (t.fr.length - cntB t.fr.length seen) seen fr left
def nextB (t:Tr) (seen:Nat) (fr left:Int) (v:Nat):List Pl:=if goB t seen fr v left=true then [(v::(bestS t (seen ||| 2 ^ v) (v:Int) (leftB t fr v left)).1,(bestS t (seen ||| 2 ^ v) (v:Int) (leftB t fr v left)).2)] else []
def doneB (t:Tr) (seen:Nat) (fr left:Int) (k:Nat):List Pl:=(List.range k).flatMap (nextB t seen fr left)
theorem Bz3 (t:Tr) (seen:Nat) (fr left:Int) (k:Nat):doneB t seen fr left (k + 1)=doneB t seen fr left k++nextB t seen fr left k:=by
  unfold doneB;rw [List.range_succ,List.flatMap_append];simp
theorem BX4 {t:Tr} {seen v:Nat} {fr left:Int} (h:goB t seen fr v left=true):seen.testBit v=false:=by
  unfold goB at h;simp only [Bool.and_eq_true,Bool.not_eq_true'] at h;exact h.1
theorem Cq4 (t:Tr) (seen:Nat) (fr left:Int):bestS t seen fr left=leastX ([],left) (doneB t seen fr left t.fr.length):=by
  have hc:=BA0 t.fr.length seen
  rcases Nat.lt_or_ge (cntB t.fr.length seen) t.fr.length with h | h
  · obtain ⟨f,hf⟩:∃ f,t.fr.length - cntB t.fr.length seen=f + 1:=⟨t.fr.length - cntB t.fr.length seen - 1,by omega⟩
    unfold bestS;rw [hf]
    show leastX ([],left) _=_
    congr 1
    unfold doneB;rw [List.flatMap_def,List.flatMap_def];refine congrArg List.flatten (List.map_congr_left fun v hv=>?_)
    have hvn:=List.mem_range.1 hv;unfold nextB
    split
    · rename_i hg
      have h1:=Bf5 (BX4 hg) (n:=t.fr.length);rw [if_pos hvn] at h1;unfold bestS;rw [h1,show t.fr.length - (cntB t.fr.length seen + 1)=f by omega]
    · rfl
  · have h0:t.fr.length - cntB t.fr.length seen=0:=by omega
    unfold bestS;rw [h0]
    have hd:doneB t seen fr left t.fr.length=[]:=by
      unfold doneB;rw [List.flatMap_eq_nil_iff];intro v hv;unfold nextB;rw [if_neg];intro hg
      have:=CG0 (BX4 hg) (List.mem_range.1 hv)
      omega
    rw [hd];rfl
theorem Bq9 (t:Tr) (seen:Nat) (fr left:Int):∀ k,(doneB t seen fr left k).length≤k
  | 0=>Nat.le_refl _
  | k + 1=>by
    rw [Bz3,List.length_append]
    have:=Bq9 t seen fr left k
    have h2:(nextB t seen fr left k).length≤1:=by unfold nextB;split <;> simp
    omega
/-! ## The plans as they lie -/
abbrev PlA:=Eng.Own×List Nat×Int
def PlA.pl (p:PlA):Pl:=(p.2.1,p.2.2)
abbrev plC (p:PlA):List Value:=[ownV p.1 p.2.1.length,.int .i64 p.2.2]
abbrev plV (p:PlA):Value:=.agg #[ownV p.1 p.2.1.length,.int .i64 p.2.2]
abbrev OE:=List (Eng.Own×List Nat)
abbrev Ms:=List (List Int×PlA)×OE
def msM (m:List (List Int×PlA)):List (List Int×Value):=m.map fun q=>(q.1,plV q.2)
def eB (T:TypeId) (E:OE):Blks:=E.flatMap fun e=>ownB T e.1 (e.2.map natC).flatten
def OkP (E:OE) (p:PlA):Prop:=(p.1=none∧p.2.1=[])∨(p.1,p.2.1)∈E
structure OkM (t:Tr) (s:Ms):Prop where
  own:∀ e∈s.2,OwnOk 1 e.1 e.2.length (e.2.map natC).flatten
  key:∀ q∈s.1,q.1.length=3
  pl:∀ q∈s.1,OkP s.2 q.2
  is:∀ (seen:Nat) (fr left:Int) (p:PlA),([(seen:Int),fr,left],p)∈s.1→p.pl=bestS t seen fr left
theorem OkP.own {E:OE} (hE:∀ e∈E,OwnOk 1 e.1 e.2.length (e.2.map natC).flatten) {p:PlA} (h:OkP E p):OwnOk 1 p.1 p.2.1.length (p.2.1.map natC).flatten:=by
  rcases h with ⟨h1,h2⟩ | h
  · rw [h1,h2];exact OwnOk.start
  · exact hE _ h
theorem OkP.blk {T:TypeId} {E:OE} {p:PlA} (h:OkP E p) {x:Nat×Obj} (hx:x∈ownB T p.1 (p.2.1.map natC).flatten):x∈eB T E:=by
  rcases h with ⟨h1,h2⟩ | h
  · rw [h1] at hx;cases hx
  · exact List.mem_flatMap.2 ⟨_,h,hx⟩
theorem OkP.mono {E E':OE} {p:PlA} (h:OkP E p) (hs:∀ e∈E,e∈E'):OkP E' p:=h.imp id (fun h=>hs _ h)
theorem Bw5 {t:Tr} {s:Ms} (h:OkM t s):∀ x∈msM s.1,x.1.length=3:=fun x hx=>by
  obtain ⟨q,hq,rfl⟩:=List.mem_map.1 hx;exact h.key q hq
theorem Cm7 {t:Tr} {s:Ms} (h:OkM t s) {seen:Nat} {fr left:Int} {v:Value} (hf:kFind (msM s.1) [(seen:Int),fr,left]=some v):∃ p,v=plV p∧OkP s.2 p∧p.pl=bestS t seen fr left:=by
  obtain ⟨q,hq,he⟩:=List.mem_map.1 (BW6 hf);obtain ⟨k,p⟩:=q;simp only [Prod.mk.injEq] at he;obtain ⟨rfl,rfl⟩:=he;exact ⟨p,rfl,h.pl _ hq,h.is _ _ _ _ hq⟩
theorem BV5 (a:List Int) (p:PlA):∀ (m:List (List Int×PlA)),∃ m',kSet (msM m) a (plV p)=msM m'∧∀ q∈m',q=(a,p)∨q∈m
  | []=>⟨[(a,p)],rfl,fun q hq=>.inl (List.mem_singleton.1 hq)⟩
  | q::m=>by
    obtain ⟨m',h1,h2⟩:=BV5 a p m
    show ∃ m',(if q.1=a then (a,plV p)::msM m else (q.1,plV q.2)::kSet (msM m) a (plV p))=msM m'∧_
    split
    · exact ⟨(a,p)::m,rfl,fun x hx=>(List.mem_cons.1 hx).imp id (List.mem_cons_of_mem _)⟩
    · refine ⟨q::m',by rw [h1];rfl,fun x hx=>?_⟩
      rcases List.mem_cons.1 hx with rfl | hx
      · exact .inr (List.mem_cons_self ..)
      · exact (h2 x hx).imp id (List.mem_cons_of_mem _)
theorem OkM.set {t:Tr} {m m':List (List Int×PlA)} {E:OE} (h:OkM t (m,E)) {seen:Nat} {fr left:Int} {p:PlA} (hp:OkP E p) (hb:p.pl=bestS t seen fr left) (hm:∀ q∈m',q=([(seen:Int),fr,left],p)∨q∈m):OkM t (m',E) :=
  ⟨h.own,fun q hq=>(hm q hq).elim (fun e=>by rw [e];rfl) (h.key q),fun q hq=>(hm q hq).elim (fun e=>by rw [e];exact hp) (h.pl q),fun s2 f2 l2 p2 hq=>by
    rcases hm _ hq with e | hq
    · simp only [Prod.mk.injEq,List.cons.injEq,and_true] at e
      obtain ⟨⟨e1,rfl,rfl⟩,rfl⟩:=e;obtain rfl:s2=seen:=by omega
      exact hb
    · exact h.is _ _ _ _ hq⟩
theorem OkM.more {t:Tr} {m:List (List Int×PlA)} {E E':OE} (h:OkM t (m,E)) (hs:∀ e∈E,e∈E') (ho:∀ e∈E',OwnOk 1 e.1 e.2.length (e.2.map natC).flatten):OkM t (m,E') :=
  ⟨ho,h.key,fun q hq=>(h.pl q hq).mono hs,h.is⟩
theorem Aq1 (T:TypeId) (E:OE) (e:Eng.Own×List Nat):eB T (E++[e])=eB T E++ownB T e.1 (e.2.map natC).flatten:=by unfold eB;simp
theorem Cm6 (l:List Nat) (v:Nat):natC v++(l.map natC).flatten=((v::l).map natC).flatten:=by simp [natC]
end Go.Wk
namespace Go.Wk
open Go Go.Eng Go.RowKit Go.Bk
def ruleX (k:Nat) (p:Pl):Int:=if k=0 then -(p.1.length:Int) else p.2
def ruleF (k:Nat):FuncId:=if k=0 then 244 else 245
abbrev rulesO:Obj:=.cells [Value.func (.func 244) #[] #[],.func (.func 245) #[] #[]].toArray 316 (0,0)
abbrev plO (p:PlA):Obj:=.cells (plC p).toArray 142 (0,0)
theorem Cp7 {a b:Pl} {k:Nat} (hk:k < 2) (h:∀ j,j < k→cmpI (ruleX j a) (ruleX j b)=0) (hn:cmpI (ruleX k a) (ruleX k b) ≠ 0):cmpX a b=cmpI (ruleX k a) (ruleX k b):=by
  rcases Nat.lt_or_ge k 1 with h1 | h1
  · obtain rfl:k=0:=by omega
    unfold cmpX;exact if_neg hn
  · obtain rfl:k=1:=by omega
    have h0:=h 0 (by omega);unfold cmpX;exact (if_pos h0).trans (if_neg hn)
theorem Cp8 {a b:Pl} (h:∀ j,j < 2→cmpI (ruleX j a) (ruleX j b)=0):cmpX a b=cmpL a.1 b.1:=by
  have h0:=h 0 (by omega);have h1:=h 1 (by omega);unfold cmpX;exact (if_pos h0).trans (if_pos h1)
theorem Ce9:∀ (l m:List Nat),-1≤cmpL l m∧cmpL l m≤1
  | [],[]=>by simp [cmpL]
  | [],_::_=>by simp [cmpL]
  | _::_,[]=>by simp [cmpL]
  | a::l,b::m=>by
    unfold cmpL
    split
    · exact Ce9 l m
    · exact BA1 _ _
theorem CG1 (a b:Pl):-1≤cmpX a b∧cmpX a b≤1:=by
  unfold cmpX
  split
  · split
    · exact Ce9 _ _
    · exact BA1 _ _
  · exact BA1 _ _
structure SameTo (l m:List Nat) (k:Nat):Prop where
  le:k≤m.length
  is:cmpL l m=cmpL (l.drop k) (m.drop k)
theorem SameTo.s {l m:List Nat} {k:Nat} (h:SameTo l m k) (hk:k < l.length) (hk2:k < m.length) (h0:cmpI (l[k]:Int) (m[k]:Int)=0):SameTo l m (k + 1) :=
  ⟨hk2,by rw [h.is,List.drop_eq_getElem_cons hk,List.drop_eq_getElem_cons hk2];exact if_pos h0⟩
theorem SameTo.ne {l m:List Nat} {k:Nat} (h:SameTo l m k) (hk:k < l.length) (hk2:k < m.length) (h0:cmpI (l[k]:Int) (m[k]:Int) ≠ 0):cmpL l m=cmpI (l[k]:Int) (m[k]:Int):=by
  rw [h.is,List.drop_eq_getElem_cons hk,List.drop_eq_getElem_cons hk2];exact if_neg h0
theorem SameTo.out {l m:List Nat} {k:Nat} (h:SameTo l m k) (hk:k < l.length) (hk2:m.length≤k):cmpL l m=1:=by
  rw [h.is,List.drop_eq_getElem_cons hk,List.drop_of_length_le hk2];rfl
theorem SameTo.fin {l m:List Nat} (h:SameTo l m l.length):cmpL l m=if l.length < m.length then -1 else 0:=by
  rw [h.is,List.drop_length]
  split
  · rename_i h1
    rw [List.drop_eq_getElem_cons h1];rfl
  · rw [List.drop_of_length_le (by omega)];rfl
def leastA (f:PlA) (l:List PlA):PlA:=l.foldl (fun f x=>if cmpX x.pl f.pl < 0 then x else f) f
theorem AP5 {f:PlA} {l:List PlA} {k:Nat} (hk:k < l.length):leastA f (l.take (k + 1))=if cmpX l[k].pl (leastA f (l.take k)).pl < 0 then l[k] else leastA f (l.take k):=by
  unfold leastA;rw [List.take_succ_eq_append_getElem hk,List.foldl_append];rfl
theorem BW1 (f:PlA) (l:List PlA):(leastA f l).pl=leastX f.pl (l.map PlA.pl):=by
  induction l generalizing f with
  | nil=>rfl
  | cons x l ih =>
    show (leastA (if cmpX x.pl f.pl < 0 then x else f) l).pl=leastX (least1 f.pl x.pl) (l.map PlA.pl)
    rw [ih];unfold least1
    split <;> rfl
theorem AX9 (f:PlA) (l:List PlA):leastA f l=f∨leastA f l∈l:=by
  induction l generalizing f with
  | nil=>exact .inl rfl
  | cons x l ih =>
    show leastA (if cmpX x.pl f.pl < 0 then x else f) l=f∨leastA (if cmpX x.pl f.pl < 0 then x else f) l∈x::l
    split
    · rcases ih x with h | h
      · rw [h];exact .inr (List.mem_cons_self ..)
      · exact .inr (List.mem_cons_of_mem _ h)
    · rcases ih f with h | h
      · exact .inl h
      · exact .inr (List.mem_cons_of_mem _ h)
theorem AA7 (p:PlA):∀ v∈plC p,isOne v=true:=fun v hv=>by
  simp only [plC,List.mem_cons,List.not_mem_nil,or_false] at hv
  rcases hv with rfl | rfl
  · exact Bc7 _ _
  · rfl
abbrev zPl:List Value:=[.slice none 0 0,.int .i64 0]
structure PlOk (W:World) (p:PlA):Prop where
  own:OwnOk 1 p.1 p.2.1.length (p.2.1.map natC).flatten
  sl:Sl W (ownQ p.1) (ownK p.1) 0 1 (p.2.1.map natC)
  few:p.2.1.length≤1000
theorem PlOk.mono0 {W w:World} {p:PlA} {news:Blks} (h:PlOk W p) (hm:Mem W [] news w):PlOk w p:=⟨h.own,Sl.mono h.sl (by decide) hm (by simp),h.few⟩
end Go.Wk
namespace Go.Proofs.YtmkdbdbenfbkhaaGreatDoor
open Go Go.Eng Go.Bk Go.Wk
theorem AI4 (a:Int) (W:World):Calls Tryz.prog 246 #[.int .i64 a] W (Pure (.bool false) W):=by
  refine Aa2 Tryz.func246 rfl rfl ?_;refine su ?_;exact Aa4 (.r1 rfl (.tmp rfl)) (by simp)
theorem AZ0 (a b:Int) (W:World):Calls Tryz.prog 214 #[.int .i64 a,.int .i64 b] W (Pure (.int .i64 (cmpI a b)) W):=by
  refine Aa2 Tryz.func214 rfl rfl ?_;refine st ?_;refine zc (zF rfl Ca5) (fun w hm=>AI4 _ w) ?_;refine zc (zF rfl Ca5) (fun w hm=>AI4 _ w) ?_;refine RunC.cond rfl (fun h=>absurd h (by simp)) ?_;intro c0;clear c0;refine st ?_;refine RunC.cond rfl (fun h=>absurd h (by simp)) ?_;intro c2;clear c2;refine st ?_;refine cn rfl ?_ ?_
  ·intro c3'
   refine su ?_;exact Aa4 (.r1 rfl (.tmp rfl)) (by unfold cmpI;first | (rw [if_pos (by omega)]) | (rw [if_neg (by omega),if_pos (by omega)]) | (rw [if_neg (by omega),if_neg (by omega)]))
  intro c3';refine st ?_;refine cn rfl ?_ ?_
  ·intro c4'
   refine su ?_;exact Aa4 (.r1 rfl (.tmp rfl)) (by unfold cmpI;first | (rw [if_pos (by omega)]) | (rw [if_neg (by omega),if_pos (by omega)]) | (rw [if_neg (by omega),if_neg (by omega)]))
  intro c4';refine su ?_;exact Aa4 (.r1 rfl (.tmp rfl)) (by unfold cmpI;first | (rw [if_pos (by omega)]) | (rw [if_neg (by omega),if_pos (by omega)]) | (rw [if_neg (by omega),if_neg (by omega)]))
theorem BM7 (l m:List Nat) (q q2:Option Addr) (b o c b2 o2 c2:Nat) (W:World) (hS:Sl W q b o 1 (l.map natC)) (hS2:Sl W q2 b2 o2 1 (m.map natC)) (hl:l.length≤100000) (hl2:m.length≤100000):Calls Tryz.prog 215 #[.slice q l.length c,.slice q2 m.length c2] W (Pure (.int .i64 (cmpL l m)) W):=by
  refine Aa2 Tryz.func215 rfl rfl ?_;refine su ?_;refine Ad6 (l.length) (fun k q=>(11,.int .i64 (k:Int))::q) (fun _=>_) (fun _=>[]) (fun k=>SameTo l m k) ⟨Nat.zero_le _,rfl⟩ rfl (zE 11 rfl rfl (zS 0 rfl (zS 1 rfl (zS 9 rfl (zS 10 rfl (Sub.nil _)))))) .nil ?_;intro k kN kI;refine st ?_;refine cn rfl ?_ ?_
  ·intro c0'
   have hk:k < l.length:=by omega
   obtain ⟨x,hx⟩:∃ x,l[k]=x:=⟨_,rfl⟩;refine st ?_;refine lv (Aa6 rfl rfl Ak6 (by omega) (by omega) (hS.ptrM hk)) ?_;refine lu (Ab2 rfl (fun w hm=>Sl.loadM1 hS (by decide) hm (by simp) Af4 hk (v:=.int .i64 (x:Int)) (by simp [natC,hx]))) ?_;refine cn rfl ?_ ?_
   ·intro c1'
    refine su ?_;exact Aa4 (.r1 rfl (.tmp rfl)) (by rw [kI.out hk (by omega)])
   intro c1';have hk2:k < m.length:=by omega
   obtain ⟨y,hy⟩:∃ y,m[k]=y:=⟨_,rfl⟩;refine st ?_;refine lv (Aa6 rfl rfl Ak6 (by omega) (by omega) (hS2.ptrM hk2)) ?_;refine lv (Ab2 rfl (fun w hm=>Sl.loadM1 hS2 (by decide) hm (by simp) Af4 hk2 (v:=.int .i64 (y:Int)) (by simp [natC,hy]))) ?_;refine zc (zF rfl Cb5) (fun w hm=>AZ0 _ _ w) ?_;refine cn rfl ?_ ?_
   ·intro c2'
    refine su ?_;exact Aa4 (.r1 rfl (.tmp rfl)) (by rw [kI.ne hk hk2 (by rw [hx,hy];simpa using c2'),hx,hy])
   intro c2';refine st ?_;refine lv (Val.add rfl rfl (IntWalk.i64_in _ ⟨by omega,by omega⟩)) ?_;exact Ad2 (by omega) (kI.s hk hk2 (by rw [hx,hy];simpa using c2')) rfl (zE 11 rfl rfl (zS 0 rfl (zS 1 rfl (zS 9 rfl (zS 10 rfl (Sub.nil _)))))) .nil
  intro c0';obtain rfl:k=l.length:=by omega
  refine RunC.exit ?_;refine su ?_;refine Ab0 ?_;refine su ?_;refine cn rfl ?_ ?_
  ·intro c3'
   refine su ?_;exact Aa4 (.r1 rfl (.tmp rfl)) (by rw [kI.fin,if_pos (by omega)])
  intro c3';refine su ?_;exact Aa4 (.r1 rfl (.tmp rfl)) (by rw [kI.fin,if_neg (by omega)])
theorem AW1 (k:Nat) (p:PlA) (hk:p.2.1.length≤1000) (ho:OwnOk 1 p.1 p.2.1.length (p.2.1.map natC).flatten) (W:World):Calls Tryz.prog (ruleF k) #[plV p] W (Pure (.int .i64 (ruleX k p.pl)) W):=by
  obtain ⟨z,l,o⟩:=p;dsimp only at hk ho
  show Calls Tryz.prog (ruleF k) #[.agg #[ownV z l.length,.int .i64 o]] W _
  by_cases h:k=0
  · have e1:ruleF k=244:=if_pos h
    have e2:ruleX k (PlA.pl (z,l,o)) = -(l.length:Int):=if_pos h;rw [e1,e2];refine Aa2 Tryz.func244 rfl rfl ?_;refine st ?_;refine zn (New.box rfl) (fun b1=>?_)
    refine lv (Am7 rfl Ak6 ho) ?_;refine lu (Val.neg rfl (IntWalk.i64_in _ ⟨by omega,by omega⟩)) ?_;exact Aa4 (.r1 rfl (.tmp rfl)) (by first | rfl | simp)
  · have e1:ruleF k=245:=if_neg h
    have e2:ruleX k (PlA.pl (z,l,o))=o:=if_neg h;rw [e1,e2];refine Aa2 Tryz.func245 rfl rfl ?_;refine st ?_;refine zn (New.box rfl) (fun b1=>?_)
    exact Aa4 (.r1 rfl (.tmp rfl)) (by first | rfl | simp)
-- Ca7
-- Ca6
theorem BE3 (k:Nat):Enters Tryz.prog (ruleF k):=by
  unfold ruleF
  split
  · exact Ca7
  · exact Ca6
theorem Bv8 (W:World):Calls Tryz.prog 213 #[] W (News (fun b:Nat=>.slice (some ⟨b,0,none⟩) 2 2) (fun b=>[(b,rulesO)]) W):=by
  refine Aa2 Tryz.func213 rfl rfl ?_;refine st ?_;refine lv (Val.build (parts:=[(0,.func 244)]) rfl AL0 AW5 rfl) ?_;refine lv (Val.build (parts:=[(0,.func 245)]) rfl AL0 AW5 rfl) ?_;refine zn (New.buildSlice (parts:=[(0,.tmp 1),(1,.tmp 2)]) rfl BS4 AL0 rfl rfl rfl rfl) (fun b3=>?_)
  exact RunE.ret (chg:=[]) (.r1 rfl (.tmp rfl)) (fun _ hm=>⟨b3,rfl,hm⟩)
abbrev ruleC (k:Nat):List Value:=[Value.func (.func (ruleF k)) #[] #[]]
theorem Ck2 {w:World} {b k:Nat} {T:TypeId} (h:w.heap[b]? = some rulesO) (hk:k < 2) (hT:tyB Tryz.prog T=some (true,1)):(loadVar T ⟨b,0 + (k:Int).toNat * 1,none⟩).run Tryz.prog w = .ok (.agg #[Value.func (.func (ruleF k)) #[] #[]]) w:=by
  have hS:Sl w (some ⟨b,0,none⟩) b 0 1 ([0,1].map ruleC):=Sl.rows h (fun y hy=>by obtain ⟨z,_,rfl⟩:=List.mem_map.1 hy;rfl);have h2:k=0∨k=1:=by omega
  rcases h2 with rfl | rfl
  · exact Sl.loadX (f:=ruleC) (l:=[0,1]) hS (by decide) (Mem.refl w) (by simp) hT (i:=0) (by decide) rfl
  · exact Sl.loadX (f:=ruleC) (l:=[0,1]) hS (by decide) (Mem.refl w) (by simp) hT (i:=1) (by decide) rfl
theorem Br8 (x y:PlA) (W:World) (hx:PlOk W x) (hy:PlOk W y):Calls Tryz.prog 146 #[plV x,plV y] W (Pure (.int .i64 (cmpX x.pl y.pl)) W):=by
  obtain ⟨x1,x2,x3⟩:=x;obtain ⟨y1,y2,y3⟩:=y;obtain ⟨xo,xs,xf⟩:=hx;obtain ⟨yo,ys,yf⟩:=hy;dsimp only at xo xs xf yo ys yf
  show Calls Tryz.prog 146 #[.agg #[ownV x1 x2.length,.int .i64 x3],.agg #[ownV y1 y2.length,.int .i64 y3]] W _
  refine Aa2 Tryz.func146 rfl rfl ?_;refine st ?_;refine zn (New.box rfl) (fun b2=>?_)
  refine zn (New.box rfl) (fun b3=>?_)
  refine Ai2 (zF rfl CB4) rfl rfl rfl (fun w hm=>Bv8 w) (fun b8=>?_)
  refine su ?_;refine Ad6 (2) (fun k q=>(10,.int .i64 (k:Int))::q) (fun _=>_) (fun _=>[]) (fun k=>∀ j,j < k→cmpI (ruleX j (PlA.pl (x1,x2,x3))) (ruleX j (PlA.pl (y1,y2,y3)))=0) (fun j h=>absurd h (by omega)) rfl (zE 10 rfl rfl (zS 2 rfl (zS 3 rfl (zS 8 rfl (zS 9 rfl (Sub.nil _)))))) (.cons (.there (.there .here)) rfl (.cons (.there .here) rfl (.cons .here rfl .nil))) ?_;intro k kN kI;refine st ?_;refine cn rfl ?_ ?_
  ·intro c0'
   have hk:k < 2:=by omega
   refine st ?_;refine lv (Ag8 rfl rfl BS4 (by omega) (by omega)) ?_;refine lv (Ab2 rfl (fun w hm=>Ck2 (hm.at (.tail _ (.tail _ (.head _)))) hk BP9)) ?_;refine zn (New.alloc AL0) (fun b6=>?_)
   refine Ab4 (Sto.store rfl rfl .here BP9 rfl rfl) rfl rfl ?_;refine st ?_;refine Ae9 7 As5 (.cons .here rfl (.cons .here rfl (.cons .here rfl (.cons .here rfl .nil)))) ?_;refine zw 0 ?_;refine zw 1 ?_;refine zw 2 ?_;refine zw 4 ?_;refine zw 5 ?_;refine zw 6 ?_;refine zA 3 ?_;refine Ac4 rfl (Ac1 rfl rfl (BE3 k)) rfl rfl rfl (fun w hm=>AW1 k (x1,x2,x3) xf xo w) (Aa5 (.cons .here rfl (.cons .here rfl (.cons .here rfl (.cons .here rfl .nil)))) (.cons .here rfl (.cons .here rfl (.cons .here rfl (.cons .here rfl .nil)))) rfl ?_)
   refine zt ?_;refine zB 7 ?_;refine Ac4 rfl (Ac1 rfl rfl (BE3 k)) rfl rfl rfl (fun w hm=>AW1 k (y1,y2,y3) yf yo w) (Ab5 ?_)
   refine zq 8 rfl (zF rfl Cb5) (fun w hm=>AZ0 _ _ w) ?_;refine zp 9 ?_;refine zd ?_;refine st ?_;refine cn rfl ?_ ?_
   ·intro c1'
    refine su ?_;exact Aa4 (.r1 rfl (.tmp rfl)) (by rw [Cp7 hk kI (by simpa using c1')])
   intro c1';refine st ?_;refine lv (Val.add rfl rfl (IntWalk.i64_in _ ⟨by omega,by omega⟩)) ?_;exact Ad2 (by omega) (fun j h=>by (rcases Nat.lt_or_ge j k with h4 | h4;exact kI j h4;have e:j=k:=(by omega);subst e;simpa using c1')) rfl (zE 10 rfl rfl (zS 2 rfl (zS 3 rfl (zS 8 rfl (zS 9 rfl (Sub.nil _)))))) (.cons (.there .here) rfl (.cons (.there .here) rfl (.cons (.there .here) rfl .nil)))
  intro c0';obtain rfl:k=2:=by omega
  refine RunC.exit ?_;refine su ?_;refine Ab0 ?_;refine su ?_;refine zc (zF rfl CB3) (fun w hm=>(by rw [Ad5 xo,Ad5 yo];exact BM7 x2 y2 (ownQ x1) (ownQ y1) (ownK x1) 0 (ownC x1) (ownK y1) 0 (ownC y1) w (Sl.mono xs (by decide) hm (by simp)) (Sl.mono ys (by decide) hm (by simp)) (by omega) (by omega))) ?_;exact Aa4 (.r1 rfl (.tmp rfl)) (by rw [Cp8 kI];rfl)
-- Cd0
theorem Bx1 (f0:PlA) (ps:List PlA) (q:Option Addr) (b o c:Nat) (W:World) (hS:Sl W q b o 2 (ps.map plC)) (hl:ps.length≤1000) (h0:PlOk W f0) (hp:∀ p∈ps,PlOk W p):Calls Tryz.prog 145 #[.func (.func 146) #[] #[],plV f0,.slice q ps.length c] W (Pure (plV (leastA f0 ps)) W):=by
  refine Aa2 Tryz.func145 rfl rfl ?_;refine st ?_;refine zn (New.box rfl) (fun b4=>?_)
  refine zn (New.alloc Am4) (fun b6=>?_)
  refine Ad6 (ps.length) (fun k q=>(11,.int .i64 (k:Int))::q) (fun _=>_) (fun k=>[(b4,plO (leastA f0 (ps.take k)))]) (fun _=>True) trivial rfl (zE 11 rfl rfl (zS 0 rfl (zS 4 rfl (zS 6 rfl (zS 9 rfl (zS 10 rfl (Sub.nil _))))))) (.cons (.there .here) rfl (.cons .here rfl .nil)) ?_;intro k kN kI;clear kI;refine st ?_;refine cn rfl ?_ ?_
  ·intro c0'
   have hk:k < ps.length:=by omega
   obtain ⟨x,hx⟩:∃ x,ps[k]=x:=⟨_,rfl⟩;have hxm:x∈ps:=hx ▸ List.getElem_mem hk;have hk0:PlOk W (leastA f0 (ps.take k)):=by (rcases AX9 f0 (ps.take k) with h | h;rw [h];exact h0;exact hp _ (List.mem_of_mem_take h))
   have hcb:=CG1 x.pl (leastA f0 (ps.take k)).pl;refine st ?_;refine lv (Aa6 rfl rfl AV9 (by omega) (by omega) (Sl.ptrM hS hk)) ?_;refine lv (Ab2 rfl (fun w hm=>Sl.loadX hS (by decide) hm (by simp) Ao2 hk hx)) ?_;refine zn (New.alloc Am4) (fun b8=>?_)
   refine Ab4 (Sto.store (cs:=zPl) (cs':=plC x) rfl rfl .here Ao2 rfl (Ai1 rfl (AA7 x))) rfl rfl ?_;refine su ?_;refine Ab1 (Ac1 rfl rfl Cd0) rfl rfl rfl (fun w hm=>Br8 x (leastA f0 (ps.take k)) w ((hp x hxm).mono0 hm) (hk0.mono0 hm)) ?_;refine st ?_;refine cn rfl ?_ ?_
   ·intro c1'
    have hst:leastA f0 (ps.take (k + 1))=x:=by (rw [AP5 hk,hx];exact if_pos (by simpa using c1'))
    refine su ?_;refine Ab4 (Sto.store (cs:=plC (leastA f0 (ps.take k))) (cs':=plC x) rfl rfl (.there .here) Ao2 rfl (Ai1 rfl (AA7 x))) rfl rfl ?_;refine st ?_;refine lv (Val.add rfl rfl (IntWalk.i64_in _ ⟨by omega,by omega⟩)) ?_;exact Ad2 (by omega) trivial rfl (zE 11 rfl rfl (zS 0 rfl (zS 4 rfl (zS 6 rfl (zS 9 rfl (zS 10 rfl (Sub.nil _))))))) (.cons (.there .here) (by rw [hst] <;> rfl) (.cons (.there .here) rfl .nil))
   intro c1';have hst:leastA f0 (ps.take (k + 1))=leastA f0 (ps.take k):=by (rw [AP5 hk,hx];exact if_neg (by simpa using c1'))
   refine st ?_;refine lv (Val.add rfl rfl (IntWalk.i64_in _ ⟨by omega,by omega⟩)) ?_;exact Ad2 (by omega) trivial rfl (zE 11 rfl rfl (zS 0 rfl (zS 4 rfl (zS 6 rfl (zS 9 rfl (zS 10 rfl (Sub.nil _))))))) (.cons (.there .here) (by rw [hst] <;> rfl) (.cons (.there .here) rfl .nil))
  intro c0';obtain rfl:k=ps.length:=by omega
  rw [List.take_length];refine RunC.exit ?_;refine su ?_;refine Ab0 ?_;refine su ?_;refine Ab4 (Sto.store (cs:=zPl) (cs':=plC (leastA f0 ps)) rfl rfl (.there .here) Ao2 rfl (Ai1 rfl (AA7 _))) rfl rfl ?_;refine su ?_;exact Aa4 (.r1 rfl (.agg rfl (.tail _ (.head _)) Ao2 rfl)) (by first | rfl | simp)
end Go.Proofs.YtmkdbdbenfbkhaaGreatDoor
namespace Go.Wk
open Go Go.Eng Go.RowKit Go.Bk
theorem BX5 {l:List Pl} {f:Pl} {n:Nat} (hf:f.1.length≤n) (hl:∀ p∈l,p.1.length≤n):(leastX f l).1.length≤n:=by
  unfold leastX
  induction l generalizing f with
  | nil=>exact hf
  | cons x l ih =>
    refine ih ?_ (fun p hp=>hl p (List.mem_cons_of_mem _ hp))
    unfold least1
    split
    · exact hl x (List.mem_cons_self ..)
    · exact hf
theorem AZ2 (t:Tr):∀ (f seen:Nat) (fr left:Int),(bestOn t f seen fr left).1.length≤f
  | 0,_,_,_=>Nat.le_refl _
  | f + 1,seen,fr,left=>by
    unfold bestOn;refine BX5 (Nat.zero_le _) (fun p hp=>?_)
    obtain ⟨v,_,hv⟩:=List.mem_flatMap.1 hp
    split at hv
    · rw [List.mem_singleton.1 hv]
      have:=AZ2 t f (seen ||| 2 ^ v) (v:Int) (leftB t fr v left)
      simpa using this
    · cases hv
theorem AR7 (t:Tr) (seen:Nat) (fr left:Int):(bestS t seen fr left).1.length≤t.fr.length:=by
  have:=AZ2 t (t.fr.length - cntB t.fr.length seen) seen fr left
  unfold bestS;omega
theorem CT0 (s v:Nat):((s >>> v &&& 1:Nat):Int)=1 ↔ s.testBit v=true:=by
  have h:s >>> v &&& 1=(s >>> v) % 2:=Nat.and_one_is_mod _
  have h2:s.testBit v=decide ((s >>> v) % 2=1):=by
    rw [Nat.testBit_eq_decide_div_mod_eq,Nat.shiftRight_eq_div_pow]
  rw [h,h2,decide_eq_true_eq];omega
theorem CG6 (s v:Nat):s >>> v &&& 1≤1:=Nat.and_le_right
theorem Cn0 {t:Tr} {s:Ms} (h:OkM t s) (seen:Nat) (fr left:Int):∃ (p:PlA) (b:Bool),(kFind (msM s.1) [(seen:Int),fr,left]).getD (.agg #[.slice none 0 0,.int .i64 0])=plV p∧(kFind (msM s.1) [(seen:Int),fr,left]).isSome=b∧OkP s.2 p∧(b=true→p.pl=bestS t seen fr left):=by
  cases hf:kFind (msM s.1) [(seen:Int),fr,left] with
  | none=>exact ⟨(none,[],0),false,rfl,rfl,.inl ⟨rfl,rfl⟩,fun h=>by cases h⟩
  | some v =>
    obtain ⟨p,h1,h2,h3⟩:=Cm7 h hf;exact ⟨p,true,by rw [h1];rfl,rfl,h2,fun _=>h3⟩
structure LocB (t:Tr) (s0:OE) (seen:Nat) (fr left:Int) (v:Nat) (s:Ms) (ps:List PlA):Prop where
  ok:OkM t s
  pl:∀ p∈ps,OkP s.2 p
  is:ps.map PlA.pl=([],left)::doneB t seen fr left v
  sub:∀ e∈s0,e∈s.2
theorem LocB.few {t:Tr} {s0:OE} {seen:Nat} {fr left:Int} {v:Nat} {s:Ms} {ps:List PlA} (h:LocB t s0 seen fr left v s ps):ps.length≤v + 1∧1≤ps.length:=by
  have h1:=congrArg List.length h.is;have h2:=Bq9 t seen fr left v;rw [List.length_map,List.length_cons] at h1;omega
theorem LocB.pass {t:Tr} {s0:OE} {seen:Nat} {fr left:Int} {v:Nat} {s:Ms} {ps:List PlA} (h:LocB t s0 seen fr left v s ps) (hg:goB t seen fr v left=false):LocB t s0 seen fr left (v + 1) s ps :=
  ⟨h.ok,h.pl,by rw [h.is,Bz3];unfold nextB;rw [if_neg (by rw [hg];decide),List.append_nil],h.sub⟩
theorem LocB.add {t:Tr} {s0:OE} {seen:Nat} {fr left:Int} {v:Nat} {s s2:Ms} {ps:List PlA} (h:LocB t s0 seen fr left v s ps) (hg:goB t seen fr v left=true) {p:PlA} {z:Eng.Own} (h2:OkM t s2) (hp:p.pl=bestS t (seen ||| 2 ^ v) (v:Int) (leftB t fr v left)) (hs:∀ e∈s.2,e∈s2.2) (hz:OwnOk 1 z (v::p.2.1).length (((v::p.2.1).map natC).flatten)):LocB t s0 seen fr left (v + 1) (s2.1,s2.2++[(z,v::p.2.1)]) (ps++[(z,v::p.2.1,p.2.2)]):=by
  refine ⟨h2.more (fun e he=>List.mem_append_left _ he) (fun e he=>?_),fun q hq=>?_,?_,fun e he=>List.mem_append_left _ (hs _ (h.sub e he))⟩
  · rcases List.mem_append.1 he with he | he
    · exact h2.own e he
    · rw [List.mem_singleton.1 he];exact hz
  · rcases List.mem_append.1 hq with hq | hq
    · exact (h.pl q hq).mono (fun e he=>List.mem_append_left _ (hs e he))
    · rw [List.mem_singleton.1 hq];exact .inr (List.mem_append_right _ (List.mem_singleton.2 rfl))
  · rw [List.map_append,h.is,Bz3]
    unfold nextB;rw [if_pos hg,← hp];rfl
theorem Ak1 {e:TypeId} {b c:Nat} {r xs:List Value}:ownB e (some (b,c,r)) xs=[(b,.cells (xs++r).toArray e (0,0))]:=rfl
theorem Cl3 (z:Eng.Own) (n:Nat) (o:Int):pasteAll [(0,1),(1,1)] [.slice none 0 0,.int .i64 0] [(0,ownV z n),(1,.int .i64 o)]=some [ownV z n,.int .i64 o]:=by
  cases z with
  | none=>rfl
  | some y=>obtain ⟨b,c,r⟩:=y;rfl
theorem OkP.plok {T:TypeId} {E:OE} {w:World} {p:PlA} (hE:∀ e∈E,OwnOk 1 e.1 e.2.length (e.2.map natC).flatten) (h:OkP E p) (hl:p.2.1.length≤1000) (hm:∀ b o,(b,o)∈eB T E→w.heap[b]? = some o):PlOk w p :=
  ⟨h.own hE,Ah1 (f:=natC) (e:=T) (fun _=>rfl) (by decide) (h.own hE) (fun b o hb=>hm b o (h.blk hb)),hl⟩
theorem LocB.len {t:Tr} {s0:OE} {seen:Nat} {fr left:Int} {v:Nat} {s:Ms} {ps:List PlA} (h:LocB t s0 seen fr left v s ps) (hn:t.fr.length≤6):∀ p∈ps,p.2.1.length≤1000:=fun p hp=>by
  have h1:p.pl∈ps.map PlA.pl:=List.mem_map.2 ⟨p,hp,rfl⟩;rw [h.is] at h1
  rcases List.mem_cons.1 h1 with h2 | h2
  · have h3:=congrArg (fun q:Pl=>q.1.length) h2
    exact Nat.le_trans (Nat.le_of_eq h3) (by simp)
  · obtain ⟨u,_,hu⟩:=List.mem_flatMap.1 h2
    unfold nextB at hu
    split at hu
    · have h3:=congrArg (fun q:Pl=>q.1.length) (List.mem_singleton.1 hu)
      have h4:=AR7 t (seen ||| 2 ^ u) (u:Int) (leftB t fr u left);have h5:p.2.1.length=(bestS t (seen ||| 2 ^ u) (u:Int) (leftB t fr u left)).1.length + 1:=h3;omega
    · cases hu
theorem Cl1 (z:Eng.Own) (v:Nat) (l:List Nat) (o:Int):[ownV z (1 + l.length),Value.int .i64 o]=plC (z,v::l,o):=by
  show _=[ownV z (v::l).length,Value.int .i64 o]
  rw [List.length_cons,Nat.add_comm]
theorem Cy4 (z:Eng.Own) (n:Nat) (o:Int):∀ u∈[ownV z n,Value.int .i64 o],u.oneCell'=true:=fun v hv=>by
  simp only [List.mem_cons,List.not_mem_nil,or_false] at hv
  rcases hv with rfl | rfl
  · cases z with
    | none=>rfl
    | some y=>obtain ⟨b,c,r⟩:=y;rfl
  · rfl
theorem Cl0 (ps:List PlA) (p:PlA):(ps.map plC).flatten++plC p=((ps++[p]).map plC).flatten:=by simp
end Go.Wk
namespace Go.Proofs.YtmkdbdbenfbkhaaGreatDoor
open Go Go.Eng Go.Bk Go.Wk
-- CA0
-- Ct6
-- AM3
theorem Bu7:KeyOk Tryz.prog 250 253 142 ka (fun l=>l.length=3):=KeyOk.st3 (by kernel_rfl) (by kernel_rfl) (by kernel_rfl) (fun a b c a' b' c'=>Ct6 a b c a' b' c')
abbrev mvO (m:Nat):Obj:=.cells [Value.map (some m)].toArray 250 (0,0)
abbrev bonO (x3 x1 x4:Nat):Obj:=.cells [Value.func (.func 141) #[] #[pV x3,pV x1,pV x4]].toArray 251 (0,0)
abbrev keyO (seen:Nat) (fr left:Int):Obj:=.cells [Value.int .i64 (seen:Int),.int .i64 fr,.int .i64 left].toArray 253 (0,0)
set_option maxHeartbeats 2000000 in
theorem BH3 (t:TrA) (hv:TV t.pl) (bt:Nat) (W0:World) (hb0:W0.heap[bt]? = some (tO t)) (hT0:TrOk W0 t) (x1 x3 x4 m:Nat) (seen:Nat) (fr left:Int) (s:Ms) (rest:Blks) (w0:World)
    (ih:∀ (seen2:Nat) (fr2 left2:Int) (s2:Ms) (rest:Blks) (w0:World),cntB t.fr.l.length seen2=cntB t.fr.l.length seen + 1→seen2 < 64→(fr2 = -1∨∃ u:Nat,fr2=u∧u < t.fr.l.length)→0≤left2∧left2≤2880→OkM t.pl s2→Mem W0 [] ((x3,mvO m)::(x1,x2O bt)::(x4,bonO x3 x1 x4)::(m,mapK ka (msM s2.1))::(eB 3 s2.2++rest)) w0→Calls Tryz.prog 141 #[.agg #[.int .i64 (seen2:Int),.int .i64 fr2,.int .i64 left2],pV x3,pV x1,pV x4] w0 (Grow W0 [] (fun y:PlA×Ms=>plV y.1) (fun y=>(x3,mvO m)::(x1,x2O bt)::(x4,bonO x3 x1 x4)::(m,mapK ka (msM y.2.1))::(eB 3 y.2.2++rest)) (fun y=>OkM t.pl y.2∧OkP y.2.2 y.1∧y.1.pl=bestS t.pl seen2 fr2 left2∧∀ e∈s2.2,e∈y.2.2)))
    (hsn:seen < 64) (hfr:fr = -1∨∃ u:Nat,fr=u∧u < t.fr.l.length) (hlf:0≤left∧left≤2880) (hI:OkM t.pl s)
    (hm0:Mem W0 [] ((x3,mvO m)::(x1,x2O bt)::(x4,bonO x3 x1 x4)::(m,mapK ka (msM s.1))::(eB 3 s.2++rest)) w0):Calls Tryz.prog 141 #[.agg #[.int .i64 (seen:Int),.int .i64 fr,.int .i64 left],pV x3,pV x1,pV x4] w0 (Grow W0 [] (fun y:PlA×Ms=>plV y.1) (fun y=>(x3,mvO m)::(x1,x2O bt)::(x4,bonO x3 x1 x4)::(m,mapK ka (msM y.2.1))::(eB 3 y.2.2++rest)) (fun y=>OkM t.pl y.2∧OkP y.2.2 y.1∧y.1.pl=bestS t.pl seen fr left∧∀ e∈s.2,e∈y.2.2)):=by
  have hn6:t.fr.l.length≤6:=hv.n;have hm1:Mem W0 [] ((x3,mvO m)::(x1,x2O bt)::(x4,bonO x3 x1 x4)::(m,mapK ka (msM s.1))::(eB 3 s.2++(rest++[]))) w0:=by rw [List.append_nil];exact hm0
  obtain ⟨p0,q0,hlk1,hlk2,hp0,hq0⟩:=Cn0 hI seen fr left;refine Af0 hm1 Tryz.func141 rfl rfl ?_;refine csr ?_;refine Ac3 (New.box rfl) rfl rfl rfl (fun b4=>?_)
  refine Ac3 (New.alloc Am4) rfl rfl rfl (fun b5=>?_)
  refine nnx ?_;refine RunC.scope ?_;refine RunC.seq ?_;refine csr ?_;refine Aa0 (Aa1 rfl (.tail _ (.tail _ (.head _))) Bi7 rfl) rfl rfl rfl ?_;refine Aa0 (Ab6 rfl (.tail _ (.head _)) BD5 rfl) rfl rfl rfl ?_;refine Aa0 (Cv8 (AS1 Bu7 (a:=[(seen:Int),fr,left]) rfl rfl (fun w hm=>hm.at (.tail _ (.tail _ (.tail _ (.tail _ (.tail _ (.head _))))))) rfl (Bw5 hI) AM3) (by rw [hlk1,hlk2])) rfl rfl rfl ?_
  iterate 3 refine vp rfl rfl rfl rfl ?_
  refine Ac3 (New.alloc Am4) rfl rfl rfl (fun b6=>?_)
  refine Ab4 (Sto.store (cs:=zPl) (cs':=plC p0) rfl rfl .here Ao2 rfl (Ai1 rfl (AA7 _))) rfl rfl ?_;refine vp rfl rfl rfl rfl ?_;refine nsr ?_;refine vp rfl rfl rfl rfl ?_;refine nnx ?_;refine RunC.cond rfl ?_ ?_
  ·intro c0
   have c0':=c0;clear c0;try simp only [nH] at c0'
   refine csr ?_;refine Aa0 (Ab6 rfl (.head _) Ao2 rfl) rfl rfl rfl ?_;refine Ab4 (Sto.store (cs:=zPl) (cs':=plC p0) rfl rfl (.there .here) Ao2 rfl (Ai1 rfl (AA7 _))) rfl rfl ?_;refine nnx ?_;refine RunC.ret ?_;refine Ab8 ?_;refine Am3 ?_;exact Au5 ((p0,s):PlA×Ms) ⟨hI,hp0,hq0 (by simpa using c0'),fun e he=>he⟩ (.r1 rfl (.agg rfl (.tail _ (.head _)) Ao2 rfl)) rfl (Pick.cnt fun x=>by simp only [nC,Aq1,Ak1];omega)
  intro c0;have c0':=c0;clear c0;try simp only [nH] at c0'
  refine RunC.skip ?_;refine RunE.next ?_;refine csr ?_;refine Aa0 (Val.fieldAddr rfl AE3) rfl rfl rfl ?_;refine Aa0 (Aa1 rfl (.tail _ (.tail _ (.head _))) Af4 rfl) rfl rfl rfl ?_;refine Aa0 (Val.build (parts:=[(0,.const (.slice none 0 0)),(1,.tmp 21)]) rfl Am4 AW7 rfl) rfl rfl rfl ?_;refine Ac3 (New.buildSlice (parts:=[(0,.tmp 22)]) rfl AV9 Am4 rfl rfl rfl rfl) rfl rfl rfl (fun b23=>?_)
  refine vp rfl rfl rfl rfl ?_;refine nnx ?_;refine RunC.seq ?_;refine RunC.label ?_;refine RunE.next ?_;refine RunC.seq ?_;refine csr ?_;refine Aa0 (Aa1 rfl (.tail _ (.tail _ (.tail _ (.tail _ (.tail _ (.head _)))))) As6 rfl) rfl rfl rfl ?_;refine vp rfl rfl rfl rfl ?_;refine Aa0 (Val.fieldAddr rfl Aw9) rfl rfl rfl ?_;refine Aa0 (Aa9 rfl hb0 (by simp) Af4 rfl) rfl rfl rfl ?_;refine vp rfl rfl rfl rfl ?_;refine nnx ?_;refine RunC.block ?_;refine Ak3 (Ad8 _) (news':=[(b23,.cells (([((none,[],left):PlA)].map plC).flatten++[]).toArray 142 (0,0)),(m,mapK ka (msM s.1)),(x3,mvO m),(x1,x2O bt),(x4,bonO x3 x1 x4),(b4,keyO seen fr left),(b5,.cells [Value.slice none 0 0,.int .i64 0].toArray 142 (0,0))]++(eB 3 s.2++(rest++[]))) (.cons .here rfl (.cons (.there (.there (.there (.there (.there (.there .here)))))) rfl (.cons (.there (.there (.there .here))) rfl (.cons (.there (.there (.there .here))) rfl (.cons (.there (.there (.there .here))) rfl (.cons (.there (.there .here)) rfl (.cons (.there .here) rfl (Pick.skip (Pick.refl _))))))))) ?_;refine Aj3 (X:=Eng.Own×Ms×List PlA) (n0:=[(x3,mvO m),(x1,x2O bt),(x4,bonO x3 x1 x4),(b4,keyO seen fr left),(b5,.cells [Value.slice none 0 0,.int .i64 0].toArray 142 (0,0))]) (t.fr.l.length) (fun v y q=>(28,.int .i64 (v:Int))::(8,ownV y.1 y.2.2.length)::q) (fun _ _=>_) (fun v y=>[(m,mapK ka (msM y.2.1.1))]) (fun v y=>ownB 142 y.1 (y.2.2.map plC).flatten++(eB 3 y.2.1.2++(rest++[]))) (fun v y=>OwnOk 2 y.1 y.2.2.length (y.2.2.map plC).flatten∧LocB t.pl s.2 seen fr left v y.2.1 y.2.2) (some (b23,1,[]),s,[(none,[],left)]) ⟨⟨rfl,(fun h=>by cases h),(fun b c r h=>by cases h;exact ⟨Nat.le_refl 1,by simp [maxLen],rfl⟩)⟩,hI,(fun p hp=>by rw [List.mem_singleton.1 hp];exact .inl ⟨rfl,rfl⟩),rfl,fun e he=>he⟩ rfl (Ac8 (t:=28) rfl rfl (Ac8 (t:=8) rfl rfl (Sub.cons (t:=1) rfl (Sub.cons (t:=2) rfl (Sub.cons (t:=3) rfl (Sub.cons (t:=4) rfl (Sub.cons (t:=5) rfl (Sub.cons (t:=27) rfl (Sub.nil _))))))))) (Pick.cnt fun x=>by simp only [nC,Aq1,Ak1];omega) ?_;intro v y vN vI;obtain ⟨hyL,yI⟩:=vI;have hpf:=yI.few;refine csr ?_;refine vp rfl rfl rfl rfl ?_;refine nnx ?_;refine RunC.seq ?_;refine RunC.cond rfl ?_ ?_
  ·intro c1
   have c1':=c1;clear c1;try simp only [nH] at c1'
   have hvN:v < t.fr.l.length:=by omega
   have hvs:v < t.stay.l.length:=by rw [show t.stay.l.length=t.fr.l.length from hv.stayL];exact hvN
   obtain ⟨sy,hsy⟩:∃ x,t.stay.l[v]=x:=⟨_,rfl⟩;have hsd:t.pl.stay.getD v zS=sy:=(Ai5 hvs).trans hsy;have hsb:=hv.stayB hvN;rw [hsd] at hsb;obtain ⟨a,ha⟩:∃ a,beginX t.pl fr v ⟨left,left⟩=a:=⟨_,rfl⟩;have hab:=hv.begins (m:=⟨left,left⟩) (B:=2880) hvN hfr hlf.1 hlf.2 hlf.1 hlf.2 (by decide);rw [ha] at hab;have hlg:=hv.lightB hvN;have hsh:=Nat.shiftRight_le seen v;have hba:=CG6 seen v;have h2v:2 ^ v < 2 ^ 6:=Nat.pow_lt_pow_right (by decide) (by omega);have hor2:seen ||| 2 ^ v < 64:=Nat.or_lt_two_pow (n:=6) hsn h2v;have hlfe:leftB t.pl fr v left=a.hi + sy.hi:=by (unfold leftB afterX begB;rw [ha,hsd])
   refine RunC.skip ?_;refine RunE.next ?_;refine RunC.seq ?_;refine RunC.block ?_;refine csr ?_;refine vp rfl rfl rfl rfl ?_;refine vp rfl rfl rfl rfl ?_;refine nnx ?_;refine RunC.seq ?_;refine csr ?_;refine Aa0 (Val.fieldAddr rfl AQ2) rfl rfl rfl ?_;refine Aa0 (Aa1 rfl (.tail _ (.tail _ (.tail _ (.tail _ (.head _))))) Af4 rfl) rfl rfl rfl ?_;refine vp rfl rfl rfl rfl ?_;refine Aa0 (Cq9 (a:=seen) (b:=v) rfl rfl (by show v≤64;omega)) rfl rfl rfl ?_;refine Aa0 (Val.and (a:=seen >>> v) (b:=1) rfl rfl (by show _ < 2 ^ 64;omega) (by show _ < 2 ^ 64;omega) (Bd5 (by omega))) rfl rfl rfl ?_;refine vp rfl rfl rfl rfl ?_;refine nnx ?_;refine RunC.cond rfl ?_ ?_
   ·intro c2
    have c2':=c2;clear c2;try simp only [nH] at c2'
    have hno:goB t.pl seen fr v left=false:=by (unfold goB;rw [(CT0 seen v).1 (by simpa using c2')];rfl)
    refine RunC.exit ?_;refine Ac7 ?_;refine Ab0 ?_;refine RunE.next ?_;refine RunC.region ?_;refine Aa0 (Val.add rfl rfl (IntWalk.i64_in _ ⟨by omega,by omega⟩)) rfl rfl rfl ?_;refine vp rfl rfl rfl rfl ?_;refine RunL.nil ?_;exact Ae7 y (by omega) ⟨hyL,yI.pass hno⟩ rfl (Ac8 (t:=28) rfl rfl (Ac8 (t:=8) rfl (by first | rfl | simp) (Sub.cons (t:=1) rfl (Sub.cons (t:=2) rfl (Sub.cons (t:=3) rfl (Sub.cons (t:=4) rfl (Sub.cons (t:=5) rfl (Sub.cons (t:=27) rfl (Sub.nil _))))))))) (Pick.cnt fun x=>by simp only [nC,Aq1,Ak1];omega)
   intro c2;have c2':=c2;clear c2;try simp only [nH] at c2'
   have hbit:seen.testBit v=false:=by (have h9:=mt (CT0 seen v).2 (by simpa using c2');simpa using h9)
   refine RunC.skip ?_;refine RunE.next ?_;refine csr ?_;refine Aa0 (Aa1 rfl (.tail _ (.tail _ (.head _))) As6 rfl) rfl rfl rfl ?_;refine Aa0 (Val.fieldAddr rfl Bp5) rfl rfl rfl ?_;refine Aa0 (Aa1 rfl (.tail _ (.tail _ (.tail _ (.tail _ (.head _))))) Af4 rfl) rfl rfl rfl ?_;refine vp rfl rfl rfl rfl ?_;refine Aa0 (Val.fieldAddr rfl AE3) rfl rfl rfl ?_;refine Aa0 (Aa1 rfl (.tail _ (.tail _ (.tail _ (.tail _ (.head _))))) Af4 rfl) rfl rfl rfl ?_;refine Aa0 (Val.fieldAddr rfl AE3) rfl rfl rfl ?_;refine Aa0 (Aa1 rfl (.tail _ (.tail _ (.tail _ (.tail _ (.head _))))) Af4 rfl) rfl rfl rfl ?_;refine Aa0 (Val.build (parts:=[(0,.tmp 42),(1,.tmp 44)]) rfl Al5 Ay6 rfl) rfl rfl rfl ?_;refine Ab1 (Ab7 rfl Cd2) rfl rfl rfl (fun w hm=>AH6 t hv bt w (hm.old_at hb0 (by simp)) (hT0.mono0 hm) fr v hvN hfr ⟨left,left⟩ (by dsimp only;omega)) ?_;rw [ha];refine Ac3 (New.alloc Al5) rfl rfl rfl (fun b10=>?_)
   refine Ab4 (Sto.store rfl rfl .here Ak9 rfl rfl) rfl rfl ?_;refine nnx ?_;refine RunC.seq ?_;refine csr ?_;refine Aa0 (Val.build (parts:=[]) rfl BO7 Bl3 rfl) rfl rfl rfl ?_;refine Aa0 (Aa1 rfl (.tail _ (.tail _ (.tail _ (.head _)))) As6 rfl) rfl rfl rfl ?_;refine vp rfl rfl rfl rfl ?_;refine Aa0 (Ab6 rfl (.head _) Ak9 rfl) rfl rfl rfl ?_;refine Ab1 (Ab7 rfl Cd1) rfl rfl rfl (fun w hm=>AM5 t hv bt w (hm.old_at hb0 (by simp)) (hT0.mono0 hm) v hvN a) ?_;refine vp rfl rfl rfl rfl ?_;refine nnx ?_;refine RunC.cond rfl ?_ ?_
   ·intro c3
    have c3':=c3;clear c3;try simp only [nH] at c3'
    have hno:goB t.pl seen fr v left=false:=by (unfold goB begB;rw [ha,hbit];simpa using c3')
    refine RunC.exit ?_;refine Ac7 ?_;refine Ab0 ?_;refine RunE.next ?_;refine RunC.region ?_;refine Aa0 (Val.add rfl rfl (IntWalk.i64_in _ ⟨by omega,by omega⟩)) rfl rfl rfl ?_;refine vp rfl rfl rfl rfl ?_;refine RunL.nil ?_;exact Ae7 y (by omega) ⟨hyL,yI.pass hno⟩ rfl (Ac8 (t:=28) rfl rfl (Ac8 (t:=8) rfl (by first | rfl | simp) (Sub.cons (t:=1) rfl (Sub.cons (t:=2) rfl (Sub.cons (t:=3) rfl (Sub.cons (t:=4) rfl (Sub.cons (t:=5) rfl (Sub.cons (t:=27) rfl (Sub.nil _))))))))) (Pick.cnt fun x=>by simp only [nC,Aq1,Ak1];omega)
   intro c3;have c3':=c3;clear c3;try simp only [nH] at c3'
   have hgo:goB t.pl seen fr v left=true:=by (unfold goB begB;rw [ha,hbit];simpa using c3')
   have hsure:a.hi≤(t.pl.light.getD v zS).hi:=by (have h9:=c3';simpa [sureX] using h9)
   have hlf2:0≤a.hi + sy.hi∧a.hi + sy.hi≤2880:=by omega
   have hcn2:cntB t.fr.l.length (seen ||| 2 ^ v)=cntB t.fr.l.length seen + 1:=by (have h9:=Bf5 hbit (n:=t.fr.l.length);rw [if_pos hvN] at h9;omega)
   refine RunC.skip ?_;refine RunE.next ?_;refine RunC.seq ?_;refine An2 (X:=Nat×PlA×Ms) 21 (n0:=[(x3,_),(x1,_),(x4,_),(b4,_),(b5,_)]) (fun k q=>(11,pV k.1)::q) (fun k=>[]) (fun k=>[(k.1,plO k.2.1),(m,mapK ka (msM k.2.2.1))]) (fun k=>ownB 142 y.1 (y.2.2.map plC).flatten++(eB 3 k.2.2.2++(rest++[]))) (fun k=>OkM t.pl k.2.2∧OkP k.2.2.2 k.2.1∧k.2.1.pl=bestS t.pl (seen ||| 2 ^ v) (v:Int) (a.hi + sy.hi)∧∀ e∈y.2.1.2,e∈k.2.2.2) As5 (.cons .here rfl (.cons (.there .here) rfl (.cons (.there .here) rfl (.cons (.there .here) rfl (.cons (.there .here) rfl (.cons (.there .here) rfl .nil)))))) (Sub.cons (t:=1) rfl (Sub.cons (t:=2) rfl (Sub.cons (t:=3) rfl (Sub.cons (t:=4) rfl (Sub.cons (t:=5) rfl (Sub.cons (t:=8) rfl (Sub.cons (t:=9) rfl (Sub.cons (t:=28) rfl (Sub.cons (t:=27) rfl (Sub.nil _)))))))))) (.cons (.there (.there .here)) rfl (.cons (.there (.there .here)) rfl (.cons (.there (.there .here)) rfl (.cons (.there (.there .here)) rfl (.cons (.there (.there .here)) rfl .nil))))) ?_ ?_
   ·refine va 0 rfl (Aa1 rfl (.tail _ (.tail _ (.tail _ (.head _)))) BD6 rfl) rfl rfl rfl (.cons .here rfl (.cons (.there .here) rfl (.cons (.there .here) rfl (.cons (.there .here) rfl (.cons (.there .here) rfl (.cons (.there .here) rfl .nil)))))) rfl ?_
    refine va 1 rfl (Val.fieldAddr rfl AQ2) rfl rfl rfl (.cons .here rfl (.cons (.there .here) rfl (.cons (.there .here) rfl (.cons (.there .here) rfl (.cons (.there .here) rfl (.cons (.there .here) rfl .nil)))))) rfl ?_;refine va 2 rfl (Aa1 rfl (.tail _ (.tail _ (.tail _ (.tail _ (.head _))))) Af4 rfl) rfl rfl rfl (.cons .here rfl (.cons (.there .here) rfl (.cons (.there .here) rfl (.cons (.there .here) rfl (.cons (.there .here) rfl (.cons (.there .here) rfl .nil)))))) rfl ?_;refine va 3 rfl (Aa8 rfl) rfl rfl rfl (.cons .here rfl (.cons (.there .here) rfl (.cons (.there .here) rfl (.cons (.there .here) rfl (.cons (.there .here) rfl (.cons (.there .here) rfl .nil)))))) rfl ?_;refine va 4 rfl (Bh1 (b:=v) rfl rfl (by show v≤64;omega) (Bd5 (n:=2 ^ v) (by omega))) rfl rfl rfl (.cons .here rfl (.cons (.there .here) rfl (.cons (.there .here) rfl (.cons (.there .here) rfl (.cons (.there .here) rfl (.cons (.there .here) rfl .nil)))))) rfl ?_;refine va 5 rfl (Val.or (a:=seen) (b:=2 ^ v) rfl rfl (by show _ < 2 ^ 64;omega) (by show _ < 2 ^ 64;omega) (Bd5 (by omega))) rfl rfl rfl (.cons .here rfl (.cons (.there .here) rfl (.cons (.there .here) rfl (.cons (.there .here) rfl (.cons (.there .here) rfl (.cons (.there .here) rfl .nil)))))) rfl ?_;refine va 6 rfl (Aa8 rfl) rfl rfl rfl (.cons .here rfl (.cons (.there .here) rfl (.cons (.there .here) rfl (.cons (.there .here) rfl (.cons (.there .here) rfl (.cons (.there .here) rfl .nil)))))) rfl ?_;refine va 7 rfl (Ab6 rfl (.head _) Ak9 rfl) rfl rfl rfl (.cons .here rfl (.cons (.there .here) rfl (.cons (.there .here) rfl (.cons (.there .here) rfl (.cons (.there .here) rfl (.cons (.there .here) rfl .nil)))))) rfl ?_;refine va 8 rfl (Aa1 rfl (.tail _ (.tail _ (.head _))) As6 rfl) rfl rfl rfl (.cons .here rfl (.cons (.there .here) rfl (.cons (.there .here) rfl (.cons (.there .here) rfl (.cons (.there .here) rfl (.cons (.there .here) rfl .nil)))))) rfl ?_;refine va 9 rfl (Aa8 rfl) rfl rfl rfl (.cons .here rfl (.cons (.there .here) rfl (.cons (.there .here) rfl (.cons (.there .here) rfl (.cons (.there .here) rfl (.cons (.there .here) rfl .nil)))))) rfl ?_;refine va 10 rfl (Val.fieldAddr rfl Au2) rfl rfl rfl (.cons .here rfl (.cons (.there .here) rfl (.cons (.there .here) rfl (.cons (.there .here) rfl (.cons (.there .here) rfl (.cons (.there .here) rfl .nil)))))) rfl ?_;refine va 11 rfl (Val.fieldAddr rfl Be2) rfl rfl rfl (.cons .here rfl (.cons (.there .here) rfl (.cons (.there .here) rfl (.cons (.there .here) rfl (.cons (.there .here) rfl (.cons (.there .here) rfl .nil)))))) rfl ?_;refine va 12 rfl (Aa9 rfl hb0 (by simp) Az9 rfl) rfl rfl rfl (.cons .here rfl (.cons (.there .here) rfl (.cons (.there .here) rfl (.cons (.there .here) rfl (.cons (.there .here) rfl (.cons (.there .here) rfl .nil)))))) rfl ?_;refine va 13 rfl (Aa8 rfl) rfl rfl rfl (.cons .here rfl (.cons (.there .here) rfl (.cons (.there .here) rfl (.cons (.there .here) rfl (.cons (.there .here) rfl (.cons (.there .here) rfl .nil)))))) rfl ?_;refine va 14 rfl (Aa6 rfl rfl Av4 (by omega) (by omega) (Sl.ptrM hT0.stay hvs)) rfl rfl rfl (.cons .here rfl (.cons (.there .here) rfl (.cons (.there .here) rfl (.cons (.there .here) rfl (.cons (.there .here) rfl (.cons (.there .here) rfl .nil)))))) rfl ?_;refine va 15 rfl (Ab2 rfl (fun w hm=>Sl.loadX hT0.stay (by decide) hm (by simp) Ah0 hvs hsy)) rfl rfl rfl (.cons .here rfl (.cons (.there .here) rfl (.cons (.there .here) rfl (.cons (.there .here) rfl (.cons (.there .here) rfl (.cons (.there .here) rfl .nil)))))) rfl ?_;refine Ag5 (rs:=[16,20]) (by kernel_rfl) (by simp) (by kernel_rfl) (fun m hm=>?_)
    simp only [List.mem_cons,List.not_mem_nil,or_false] at hm
    rcases hm with rfl | rfl
    ·refine Ac4 rfl (Ab7 rfl AR1) rfl rfl rfl (fun w hm=>Ap1 a sy (by omega) (by omega) w) (Aa5 (.cons .here rfl (.cons (.there .here) rfl (.cons (.there .here) rfl (.cons (.there .here) rfl (.cons (.there .here) rfl (.cons (.there .here) rfl .nil)))))) (.cons .here rfl (.cons .here rfl (.cons .here rfl (.cons .here rfl (.cons .here rfl (.cons .here rfl .nil)))))) rfl ?_)
     refine va 17 rfl (Val.field rfl AI8 rfl) rfl rfl rfl (.cons .here rfl (.cons (.there .here) rfl (.cons (.there .here) rfl (.cons (.there .here) rfl (.cons (.there .here) rfl (.cons (.there .here) rfl .nil)))))) rfl ?_;refine va 18 rfl (Val.build (parts:=[(0,.tmp 58),(1,.tmp 59),(2,.tmp 70)]) rfl Ba6 AG1 rfl) rfl rfl rfl (.cons .here rfl (.cons (.there .here) rfl (.cons (.there .here) rfl (.cons (.there .here) rfl (.cons (.there .here) rfl (.cons (.there .here) rfl .nil)))))) rfl ?_;refine Ag5 (rs:=[19,20]) (by kernel_rfl) (by simp) (by kernel_rfl) (fun m hm=>?_)
     simp only [List.mem_cons,List.not_mem_nil,or_false] at hm
     rcases hm with rfl | rfl
     ·refine Az4 rfl (Ac1 rfl rfl Bf0) rfl rfl rfl (fun w hm=>(Ao9 (nw':=fun k:PlA×Ms=>(b10,.cells [Value.int .i64 a.lo,.int .i64 a.hi].toArray 202 (0,0))::(m,mapK ka (msM k.2.1))::(x3,mvO m)::(x1,x2O bt)::(x4,bonO x3 x1 x4)::(b4,keyO seen fr left)::(b5,.cells [Value.slice none 0 0,.int .i64 0].toArray 142 (0,0))::(ownB 142 y.1 (y.2.2.map plC).flatten++(eB 3 k.2.2++(rest++[])))) (ih (seen ||| 2 ^ v) (v:Int) (a.hi + sy.hi) y.2.1 ((b10,.cells [Value.int .i64 a.lo,.int .i64 a.hi].toArray 202 (0,0))::(b4,keyO seen fr left)::(b5,.cells [Value.slice none 0 0,.int .i64 0].toArray 142 (0,0))::(ownB 142 y.1 (y.2.2.map plC).flatten++(rest++[]))) w hcn2 hor2 (.inr ⟨v,rfl,hvN⟩) hlf2 yI.ok (hm.pick (Pick.cnt fun x=>by simp only [nC,Aq1,Ak1];omega))) (fun k=>(Pick.cnt fun x=>by simp only [nC,Aq1,Ak1];omega)))) (fun z72 hz72=>(Aa5 (.cons .here rfl (.cons (.there .here) rfl (.cons (.there .here) rfl (.cons (.there .here) rfl (.cons (.there .here) rfl (.cons (.there .here) rfl .nil)))))) (.cons .here rfl (.cons .here rfl (.cons .here rfl (.cons .here rfl (.cons .here rfl (.cons .here rfl .nil)))))) rfl ?_))
      refine RunA.one (i:=20) (by kernel_rfl) (by kernel_rfl) ?_;refine Ae0 rfl (New.alloc Am4) rfl rfl rfl (fun b11=>(Aa5 (.cons .here rfl (.cons .here rfl (.cons (.there .here) rfl (.cons (.there .here) rfl (.cons (.there .here) rfl (.cons (.there .here) rfl (.cons (.there .here) rfl .nil))))))) (.cons (.there .here) rfl (.cons (.there .here) rfl (.cons (.there .here) rfl (.cons (.there .here) rfl (.cons (.there .here) rfl (.cons (.there .here) rfl .nil)))))) rfl ?_))
      refine Af3 (by kernel_rfl) ?_;refine RunB.one (i:=21) (by kernel_rfl) ?_;refine Ag9 rfl (Sto.store (cs:=zPl) (cs':=plC z72.1) rfl rfl .here Ao2 rfl (Ai1 rfl (AA7 _))) rfl rfl (Ab5 ?_)
      refine RunB.done (by kernel_rfl) ?_;exact Ad3 (b11,z72.1,z72.2) hz72 rfl (Ac8 (t:=11) rfl rfl (Sub.cons (t:=1) rfl (Sub.cons (t:=2) rfl (Sub.cons (t:=3) rfl (Sub.cons (t:=4) rfl (Sub.cons (t:=5) rfl (Sub.cons (t:=8) rfl (Sub.cons (t:=9) rfl (Sub.cons (t:=28) rfl (Sub.cons (t:=27) rfl (Sub.nil _))))))))))) (.cons .here rfl (.cons (.there .here) rfl (.cons (.there .here) rfl (.cons (.there .here) rfl (.cons (.there .here) rfl (.cons (.there .here) rfl (.cons (.there .here) rfl (Pick.skip (Pick.same rfl)))))))))
     refine Ae0 rfl (New.alloc Am4) rfl rfl rfl (fun b11=>(Aa5 (.cons .here rfl (.cons .here rfl (.cons (.there .here) rfl (.cons (.there .here) rfl (.cons (.there .here) rfl (.cons (.there .here) rfl (.cons (.there .here) rfl .nil))))))) (.cons (.there .here) rfl (.cons (.there .here) rfl (.cons (.there .here) rfl (.cons (.there .here) rfl (.cons (.there .here) rfl (.cons (.there .here) rfl .nil)))))) rfl ?_))
     refine RunA.one (i:=19) (by kernel_rfl) (by kernel_rfl) ?_;refine Az4 rfl (Ac1 rfl rfl Bf0) rfl rfl rfl (fun w hm=>(Ao9 (nw':=fun k:PlA×Ms=>(b11,.cells [Value.slice none 0 0,.int .i64 0].toArray 142 (0,0))::(b10,.cells [Value.int .i64 a.lo,.int .i64 a.hi].toArray 202 (0,0))::(m,mapK ka (msM k.2.1))::(x3,mvO m)::(x1,x2O bt)::(x4,bonO x3 x1 x4)::(b4,keyO seen fr left)::(b5,.cells [Value.slice none 0 0,.int .i64 0].toArray 142 (0,0))::(ownB 142 y.1 (y.2.2.map plC).flatten++(eB 3 k.2.2++(rest++[])))) (ih (seen ||| 2 ^ v) (v:Int) (a.hi + sy.hi) y.2.1 ((b11,.cells [Value.slice none 0 0,.int .i64 0].toArray 142 (0,0))::(b10,.cells [Value.int .i64 a.lo,.int .i64 a.hi].toArray 202 (0,0))::(b4,keyO seen fr left)::(b5,.cells [Value.slice none 0 0,.int .i64 0].toArray 142 (0,0))::(ownB 142 y.1 (y.2.2.map plC).flatten++(rest++[]))) w hcn2 hor2 (.inr ⟨v,rfl,hvN⟩) hlf2 yI.ok (hm.pick (Pick.cnt fun x=>by simp only [nC,Aq1,Ak1];omega))) (fun k=>(Pick.cnt fun x=>by simp only [nC,Aq1,Ak1];omega)))) (fun z72 hz72=>(Aa5 (.cons .here rfl (.cons .here rfl (.cons (.there .here) rfl (.cons (.there .here) rfl (.cons (.there .here) rfl (.cons (.there .here) rfl (.cons (.there .here) rfl .nil))))))) (.cons .here rfl (.cons .here rfl (.cons .here rfl (.cons .here rfl (.cons .here rfl (.cons .here rfl (.cons .here rfl .nil))))))) rfl ?_))
     refine Af3 (by kernel_rfl) ?_;refine RunB.one (i:=21) (by kernel_rfl) ?_;refine Ag9 rfl (Sto.store (cs:=zPl) (cs':=plC z72.1) rfl rfl .here Ao2 rfl (Ai1 rfl (AA7 _))) rfl rfl (Ab5 ?_)
     refine RunB.done (by kernel_rfl) ?_;exact Ad3 (b11,z72.1,z72.2) hz72 rfl (Ac8 (t:=11) rfl rfl (Sub.cons (t:=1) rfl (Sub.cons (t:=2) rfl (Sub.cons (t:=3) rfl (Sub.cons (t:=4) rfl (Sub.cons (t:=5) rfl (Sub.cons (t:=8) rfl (Sub.cons (t:=9) rfl (Sub.cons (t:=28) rfl (Sub.cons (t:=27) rfl (Sub.nil _))))))))))) (.cons .here rfl (.cons (.there .here) rfl (.cons (.there .here) rfl (.cons (.there .here) rfl (.cons (.there .here) rfl (.cons (.there .here) rfl (.cons (.there .here) rfl (Pick.skip (Pick.same rfl)))))))))
    refine Ae0 rfl (New.alloc Am4) rfl rfl rfl (fun b11=>(Aa5 (.cons .here rfl (.cons .here rfl (.cons (.there .here) rfl (.cons (.there .here) rfl (.cons (.there .here) rfl (.cons (.there .here) rfl (.cons (.there .here) rfl .nil))))))) (.cons (.there .here) rfl (.cons (.there .here) rfl (.cons (.there .here) rfl (.cons (.there .here) rfl (.cons (.there .here) rfl (.cons (.there .here) rfl .nil)))))) rfl ?_))
    refine RunA.one (i:=16) (by kernel_rfl) (by kernel_rfl) ?_;refine Ac4 rfl (Ab7 rfl AR1) rfl rfl rfl (fun w hm=>Ap1 a sy (by omega) (by omega) w) (Aa5 (.cons .here rfl (.cons .here rfl (.cons (.there .here) rfl (.cons (.there .here) rfl (.cons (.there .here) rfl (.cons (.there .here) rfl (.cons (.there .here) rfl .nil))))))) (.cons .here rfl (.cons .here rfl (.cons .here rfl (.cons .here rfl (.cons .here rfl (.cons .here rfl (.cons .here rfl .nil))))))) rfl ?_)
    refine va 17 rfl (Val.field rfl AI8 rfl) rfl rfl rfl (.cons .here rfl (.cons .here rfl (.cons (.there .here) rfl (.cons (.there .here) rfl (.cons (.there .here) rfl (.cons (.there .here) rfl (.cons (.there .here) rfl .nil))))))) rfl ?_;refine va 18 rfl (Val.build (parts:=[(0,.tmp 58),(1,.tmp 59),(2,.tmp 70)]) rfl Ba6 AG1 rfl) rfl rfl rfl (.cons .here rfl (.cons .here rfl (.cons (.there .here) rfl (.cons (.there .here) rfl (.cons (.there .here) rfl (.cons (.there .here) rfl (.cons (.there .here) rfl .nil))))))) rfl ?_;refine RunA.one (i:=19) (by kernel_rfl) (by kernel_rfl) ?_;refine Az4 rfl (Ac1 rfl rfl Bf0) rfl rfl rfl (fun w hm=>(Ao9 (nw':=fun k:PlA×Ms=>(b11,.cells [Value.slice none 0 0,.int .i64 0].toArray 142 (0,0))::(b10,.cells [Value.int .i64 a.lo,.int .i64 a.hi].toArray 202 (0,0))::(m,mapK ka (msM k.2.1))::(x3,mvO m)::(x1,x2O bt)::(x4,bonO x3 x1 x4)::(b4,keyO seen fr left)::(b5,.cells [Value.slice none 0 0,.int .i64 0].toArray 142 (0,0))::(ownB 142 y.1 (y.2.2.map plC).flatten++(eB 3 k.2.2++(rest++[])))) (ih (seen ||| 2 ^ v) (v:Int) (a.hi + sy.hi) y.2.1 ((b11,.cells [Value.slice none 0 0,.int .i64 0].toArray 142 (0,0))::(b10,.cells [Value.int .i64 a.lo,.int .i64 a.hi].toArray 202 (0,0))::(b4,keyO seen fr left)::(b5,.cells [Value.slice none 0 0,.int .i64 0].toArray 142 (0,0))::(ownB 142 y.1 (y.2.2.map plC).flatten++(rest++[]))) w hcn2 hor2 (.inr ⟨v,rfl,hvN⟩) hlf2 yI.ok (hm.pick (Pick.cnt fun x=>by simp only [nC,Aq1,Ak1];omega))) (fun k=>(Pick.cnt fun x=>by simp only [nC,Aq1,Ak1];omega)))) (fun z72 hz72=>(Aa5 (.cons .here rfl (.cons .here rfl (.cons (.there .here) rfl (.cons (.there .here) rfl (.cons (.there .here) rfl (.cons (.there .here) rfl (.cons (.there .here) rfl .nil))))))) (.cons .here rfl (.cons .here rfl (.cons .here rfl (.cons .here rfl (.cons .here rfl (.cons .here rfl (.cons .here rfl .nil))))))) rfl ?_))
    refine Af3 (by kernel_rfl) ?_;refine RunB.one (i:=21) (by kernel_rfl) ?_;refine Ag9 rfl (Sto.store (cs:=zPl) (cs':=plC z72.1) rfl rfl .here Ao2 rfl (Ai1 rfl (AA7 _))) rfl rfl (Ab5 ?_)
    refine RunB.done (by kernel_rfl) ?_;exact Ad3 (b11,z72.1,z72.2) hz72 rfl (Ac8 (t:=11) rfl rfl (Sub.cons (t:=1) rfl (Sub.cons (t:=2) rfl (Sub.cons (t:=3) rfl (Sub.cons (t:=4) rfl (Sub.cons (t:=5) rfl (Sub.cons (t:=8) rfl (Sub.cons (t:=9) rfl (Sub.cons (t:=28) rfl (Sub.cons (t:=27) rfl (Sub.nil _))))))))))) (.cons .here rfl (.cons (.there .here) rfl (.cons (.there .here) rfl (.cons (.there .here) rfl (.cons (.there .here) rfl (.cons (.there .here) rfl (.cons (.there .here) rfl (Pick.skip (Pick.same rfl)))))))))
   intro k kI;obtain ⟨b11,p72,s72⟩:=k;obtain ⟨hI72,hp72,hb72,hs72⟩:=kI;dsimp only at hI72 hp72 hb72 hs72 ⊢;have ho72:=hp72.own hI72.own;have hl72:=AR7 t.pl (seen ||| 2 ^ v) (v:Int) (a.hi + sy.hi);rw [← hb72] at hl72;have hl72b:p72.2.1.length≤6:=Nat.le_trans hl72 hn6;simp only [plO,plC,Ad5 ho72];refine RunE.next ?_;refine An2 (X:=Eng.Own×Eng.Own) 10 (n0:=[(m,_),(x3,_),(x1,_),(x4,_),(b4,_),(b5,_)]) (fun k q=>(8,ownV k.2 (y.2.2.length + 1))::q) (fun k=>[]) (fun k=>[]) (fun k=>ownB 142 k.2 ((y.2.2.map plC).flatten++[ownV k.1 (1 + p72.2.1.length),.int .i64 p72.2.2])++(ownB 3 k.1 (natC v++(p72.2.1.map natC).flatten)++(eB 3 s72.2++(rest++[])))) (fun k=>OwnOk 2 k.2 (y.2.2.length + 1) ((y.2.2.map plC).flatten++[ownV k.1 (1 + p72.2.1.length),.int .i64 p72.2.2])∧OwnOk 1 k.1 (1 + p72.2.1.length) (natC v++(p72.2.1.map natC).flatten)) As5 (.cons .here rfl (.cons (.there .here) rfl (.cons (.there .here) rfl (.cons (.there .here) rfl (.cons (.there .here) rfl (.cons (.there .here) rfl .nil)))))) (Sub.cons (t:=1) rfl (Sub.cons (t:=2) rfl (Sub.cons (t:=3) rfl (Sub.cons (t:=4) rfl (Sub.cons (t:=5) rfl (Sub.cons (t:=9) rfl (Sub.cons (t:=28) rfl (Sub.cons (t:=27) rfl (Sub.nil _))))))))) (.cons (.there .here) rfl (.cons (.there .here) rfl (.cons (.there .here) rfl (.cons (.there .here) rfl (.cons (.there .here) rfl (.cons (.there .here) rfl .nil)))))) ?_ ?_
   ·refine va 0 rfl (Aa8 rfl) rfl rfl rfl (.cons .here rfl (.cons (.there .here) rfl (.cons (.there .here) rfl (.cons (.there .here) rfl (.cons (.there .here) rfl (.cons (.there .here) rfl .nil)))))) rfl ?_
    refine va 1 rfl (Aa8 rfl) rfl rfl rfl (.cons .here rfl (.cons (.there .here) rfl (.cons (.there .here) rfl (.cons (.there .here) rfl (.cons (.there .here) rfl (.cons (.there .here) rfl .nil)))))) rfl ?_;refine va 3 rfl (Val.fieldAddr rfl Bq1) rfl rfl rfl (.cons .here rfl (.cons (.there .here) rfl (.cons (.there .here) rfl (.cons (.there .here) rfl (.cons (.there .here) rfl (.cons (.there .here) rfl .nil)))))) rfl ?_;refine va 4 rfl (Aa1 rfl (.head _) As7 rfl) rfl rfl rfl (.cons .here rfl (.cons (.there .here) rfl (.cons (.there .here) rfl (.cons (.there .here) rfl (.cons (.there .here) rfl (.cons (.there .here) rfl .nil)))))) rfl ?_;refine va 6 rfl (Val.fieldAddr rfl Bq0) rfl rfl rfl (.cons .here rfl (.cons (.there .here) rfl (.cons (.there .here) rfl (.cons (.there .here) rfl (.cons (.there .here) rfl (.cons (.there .here) rfl .nil)))))) rfl ?_;refine va 7 rfl (Aa1 rfl (.head _) Af4 rfl) rfl rfl rfl (.cons .here rfl (.cons (.there .here) rfl (.cons (.there .here) rfl (.cons (.there .here) rfl (.cons (.there .here) rfl (.cons (.there .here) rfl .nil)))))) rfl ?_;refine RunA.one (i:=2) (by kernel_rfl) (by kernel_rfl) ?_;refine Ae0 rfl (New.buildSlice (parts:=[(0,.tmp 74)]) rfl Ak6 Ap0 rfl rfl rfl rfl) rfl rfl rfl (fun b75=>(Aa5 (.cons (.there .here) rfl (.cons (.there (.there .here)) rfl (.cons (.there (.there .here)) rfl (.cons (.there (.there .here)) rfl (.cons (.there (.there .here)) rfl (.cons (.there (.there .here)) rfl .nil)))))) (.cons .here rfl (.cons .here rfl (.cons .here rfl (.cons .here rfl (.cons .here rfl (.cons .here rfl .nil)))))) rfl ?_))
    refine RunA.one (i:=5) (by kernel_rfl) (by kernel_rfl) ?_;refine Bt8 (Ad8 _) (.cons (.there .here) rfl (.cons (.there .here) rfl (.cons (.there .here) rfl (.cons (.there .here) rfl (.cons (.there .here) rfl (.cons (.there .here) rfl (.cons (.there .here) rfl (.cons .here rfl (Pick.refl _))))))))) ?_;refine RunI.append (A:=[(b11,_),(m,_),(x3,_),(x1,_),(x4,_),(b4,_),(b5,_)]) (B:=_) (x:=(some (b75,1,[]))) (ys:=(p72.2.1.map natC).flatten) rfl CG7 rfl rfl rfl ⟨rfl,(fun h=>by cases h),(fun b c r h=>by cases h;exact ⟨Nat.le_refl 1,by simp [maxLen],rfl⟩)⟩ (BV4 _) (Ap3 ho72) (fun w hm=>(Ah1 (f:=natC) (e:=3) (fun _=>rfl) (by decide) ho72 (fun b o h=>hm.at (by have h9:=hp72.blk (T:=3) h;simp [h9]))).flat (by decide)) (AL4 (f:=natC) (fun _=>rfl) _) (by simp only [maxLen];omega) (by omega) rfl (fun z78 hz78=>(Aa5 (.cons .here rfl (.cons (.there .here) rfl (.cons (.there .here) rfl (.cons (.there .here) rfl (.cons (.there .here) rfl (.cons (.there .here) rfl .nil)))))) (.cons .here rfl (.cons .here rfl (.cons .here rfl (.cons .here rfl (.cons .here rfl (.cons .here rfl .nil)))))) rfl ?_))
    refine va 8 rfl (Val.build (parts:=[(0,.tmp 78),(1,.tmp 80)]) rfl Am4 AW7 (Cl3 z78 _ _)) rfl rfl rfl (.cons .here rfl (.cons (.there .here) rfl (.cons (.there .here) rfl (.cons (.there .here) rfl (.cons (.there .here) rfl (.cons (.there .here) rfl .nil)))))) rfl ?_;refine RunA.one (i:=9) (by kernel_rfl) (by kernel_rfl) ?_;refine Ae0 rfl (New.buildSlice (parts:=[(0,.tmp 81)]) rfl AV9 Am4 rfl rfl rfl rfl) rfl rfl rfl (fun b82=>(Aa5 (.cons .here rfl (.cons .here rfl (.cons (.there .here) rfl (.cons (.there .here) rfl (.cons (.there .here) rfl (.cons (.there .here) rfl (.cons (.there .here) rfl .nil))))))) (.cons (.there .here) rfl (.cons (.there .here) rfl (.cons (.there .here) rfl (.cons (.there .here) rfl (.cons (.there .here) rfl (.cons (.there .here) rfl .nil)))))) rfl ?_))
    refine Af3 (by kernel_rfl) ?_;refine RunB.one (i:=10) (by kernel_rfl) ?_;refine Ax6 [(b82,_),(b11,_),(m,_),(x3,_),(x1,_),(x4,_),(b4,_),(b5,_)] _ _ _ rfl ?_;refine RunI.append (A:=[(b82,_),(b11,_),(m,_),(x3,_),(x1,_),(x4,_),(b4,_),(b5,_)]) (B:=_) (x:=y.1) (ys:=[ownV z78 (1 + p72.2.1.length),.int .i64 p72.2.2]) rfl CO8 rfl rfl rfl hyL rfl (fun h=>by cases h) (fun w hm=>Ah3 (hm.at (.head _))) (Cy4 _ _ _) (by simp only [maxLen];omega) (by omega) rfl (fun z83 hz83=>(Ab5 ?_))
    refine RunB.one (i:=11) (by kernel_rfl) ?_;refine Ac2 rfl (Aa8 rfl) rfl rfl rfl (Ab5 ?_)
    refine RunB.done (by kernel_rfl) ?_;exact Ad3 (z78,z83) ⟨hz83,hz78⟩ rfl (Ac8 (t:=8) rfl rfl (Sub.cons (t:=1) rfl (Sub.cons (t:=2) rfl (Sub.cons (t:=3) rfl (Sub.cons (t:=4) rfl (Sub.cons (t:=5) rfl (Sub.cons (t:=9) rfl (Sub.cons (t:=28) rfl (Sub.cons (t:=27) rfl (Sub.nil _)))))))))) (.cons (.there (.there .here)) rfl (.cons (.there (.there .here)) rfl (.cons (.there (.there .here)) rfl (.cons (.there (.there .here)) rfl (.cons (.there (.there .here)) rfl (.cons (.there (.there .here)) rfl (Pick.skip (Pick.skip (Pick.same rfl)))))))))
   intro k kI;rw [Cl1 k.1 v,Cl0,Cm6] at kI ⊢;refine Ac0 ?_;refine RunE.next ?_;refine RunC.region ?_;refine Aa0 (Val.add rfl rfl (IntWalk.i64_in _ ⟨by omega,by omega⟩)) rfl rfl rfl ?_;refine vp rfl rfl rfl rfl ?_;refine RunL.nil ?_;exact Ae7 (k.2,(s72.1,s72.2++[(k.1,v::p72.2.1)]),y.2.2++[(k.1,v::p72.2.1,p72.2.2)]) (by omega) ⟨by rw [List.length_append];exact kI.1,yI.add hgo hI72 (by rw [hlfe];exact hb72) hs72 (by rw [List.length_cons,Nat.add_comm];exact kI.2)⟩ rfl (Ac8 (t:=28) rfl rfl (Ac8 (t:=8) rfl (by first | rfl | simp) (Sub.cons (t:=1) rfl (Sub.cons (t:=2) rfl (Sub.cons (t:=3) rfl (Sub.cons (t:=4) rfl (Sub.cons (t:=5) rfl (Sub.cons (t:=27) rfl (Sub.nil _))))))))) (Pick.cnt fun x=>by simp only [nC,Aq1,Ak1];omega)
  intro c1;have c1':=c1;clear c1;try simp only [nH] at c1'
  obtain rfl:v=t.fr.l.length:=by omega
  obtain ⟨L,⟨M,E⟩,ps0⟩:=y;obtain ⟨pz,ps,rfl⟩:∃ pz ps,ps0=pz::ps:=by (cases ps0 with | nil=>exact absurd hpf.2 (by simp) | cons x l=>exact ⟨x,l,rfl⟩)
  dsimp only at hyL yI hpf ⊢;obtain ⟨pb,hpb⟩:∃ p,leastA pz ps=p:=⟨_,rfl⟩;have hbest:pb.pl=bestS t.pl seen fr left:=by (have h8:=yI.is;rw [List.map_cons,List.cons.injEq] at h8;rw [← hpb,BW1,h8.1,h8.2,Cq4];rfl)
  have hpbm:OkP E pb:=by (rcases AX9 pz ps with h | h;rw [← hpb,h];exact yI.pl _ (by simp);rw [← hpb];exact yI.pl _ (List.mem_cons_of_mem _ h))
  obtain ⟨M2,hM2,hM2s⟩:=BV5 [(seen:Int),fr,left] pb M;have hOK2:=yI.ok.set hpbm hbest hM2s;have hfind:kFind (msM M2) [(seen:Int),fr,left]=some (plV pb):=by (rw [← hM2];exact BW5 _ _ _)
  have hfew:=yI.len hn6;have hpl:ps.length + 1=(pz::ps).length:=rfl;refine RunC.exit ?_;refine Ac7 ?_;refine Ac7 ?_;refine Ab0 ?_;refine RunE.next ?_;refine RunC.seq ?_;obtain ⟨bL,cL,rL,rfl,lL1,lL2,lL3⟩:=hyL.has (by simp);refine An2 (X:=Unit) 8 (n0:=[(x3,_),(x1,_),(x4,_),(b4,_),(b5,_)]) (fun k q=>q) (fun k=>[]) (fun k=>[(m,mapK ka (kSet (msM M) [(seen:Int),fr,left] (plV pb)))]) (fun k=>eB 3 E++(rest++[])) (fun k=>True) As5 (.cons (.there .here) rfl (.cons (.there .here) rfl (.cons (.there .here) rfl (.cons (.there .here) rfl (.cons (.there .here) rfl (.cons (.there .here) rfl .nil)))))) (Sub.cons (t:=1) rfl (Sub.cons (t:=2) rfl (Sub.cons (t:=3) rfl (Sub.cons (t:=4) rfl (Sub.cons (t:=5) rfl (Sub.nil _)))))) (.cons (.there .here) rfl (.cons (.there .here) rfl (.cons (.there .here) rfl (.cons (.there .here) rfl (.cons (.there .here) rfl .nil))))) ?_ ?_
  ·refine va 0 rfl (Aa1 rfl (.head _) Bi7 rfl) rfl rfl rfl (.cons (.there .here) rfl (.cons (.there .here) rfl (.cons (.there .here) rfl (.cons (.there .here) rfl (.cons (.there .here) rfl (.cons (.there .here) rfl .nil)))))) rfl ?_
   refine va 1 rfl (Ab6 rfl (.tail _ (.tail _ (.tail _ (.head _)))) BD5 rfl) rfl rfl rfl (.cons (.there .here) rfl (.cons (.there .here) rfl (.cons (.there .here) rfl (.cons (.there .here) rfl (.cons (.there .here) rfl (.cons (.there .here) rfl .nil)))))) rfl ?_;refine va 2 rfl (Aa8 rfl) rfl rfl rfl (.cons (.there .here) rfl (.cons (.there .here) rfl (.cons (.there .here) rfl (.cons (.there .here) rfl (.cons (.there .here) rfl (.cons (.there .here) rfl .nil)))))) rfl ?_;refine va 3 rfl (Ag8 rfl rfl AV9 (by decide) (by simp)) rfl rfl rfl (.cons (.there .here) rfl (.cons (.there .here) rfl (.cons (.there .here) rfl (.cons (.there .here) rfl (.cons (.there .here) rfl (.cons (.there .here) rfl .nil)))))) rfl ?_;refine va 4 rfl (Ab2 rfl (fun w hm=>(by have h9:=Sl.loadX (f:=plC) (l:=pz::ps) (i:=0) (Sl.rowsR (hm.at (.tail _ (.tail _ (.tail _ (.tail _ (.tail _ (.head _))))))) (fun y hy=>by obtain ⟨q,_,rfl⟩:=List.mem_map.1 hy;rfl)) (by decide) (Mem.refl w) (by simp) Ao2 (by simp) rfl;exact h9))) rfl rfl rfl (.cons (.there .here) rfl (.cons (.there .here) rfl (.cons (.there .here) rfl (.cons (.there .here) rfl (.cons (.there .here) rfl (.cons (.there .here) rfl .nil)))))) rfl ?_;refine va 5 rfl (Aa8 rfl) rfl rfl rfl (.cons (.there .here) rfl (.cons (.there .here) rfl (.cons (.there .here) rfl (.cons (.there .here) rfl (.cons (.there .here) rfl (.cons (.there .here) rfl .nil)))))) rfl ?_;refine va 6 rfl (AU9 rfl rfl AV9 rfl (by decide) (by omega)) rfl rfl rfl (.cons (.there .here) rfl (.cons (.there .here) rfl (.cons (.there .here) rfl (.cons (.there .here) rfl (.cons (.there .here) rfl (.cons (.there .here) rfl .nil)))))) rfl ?_;refine RunA.one (i:=7) (by kernel_rfl) (by kernel_rfl) ?_;refine Ac4 rfl (Ab7 rfl CE6) rfl rfl rfl (fun w hm=>(by have h9:=Bx1 pz ps (some ⟨bL,(if cL=1 then 0 else 0 + 1 * 2),none⟩) bL (if cL=1 then 0 else 0 + 1 * 2) (cL - 1) w (Sl.rest (xs:=ps.map plC) (Sl.rowsR (xs:=plC pz::ps.map plC) (hm.at (.tail _ (.tail _ (.tail _ (.tail _ (.tail _ (.tail _ (.head _)))))))) (fun y hy=>by rcases List.mem_cons.1 hy with rfl | hy;rfl;obtain ⟨q,_,rfl⟩:=List.mem_map.1 hy;rfl)) (by rw [List.length_map];omega)) (by omega) ((yI.pl pz (by simp)).plok (T:=3) yI.ok.own (hfew pz (by simp)) (fun b o h=>hm.at (.tail _ (.tail _ (.tail _ (.tail _ (.tail _ (.tail _ (.tail _ ((by first | exact List.mem_append_left _ h | exact List.mem_append_right _ (List.mem_append_left _ h)))))))))))) (fun p hp=>(yI.pl p (List.mem_cons_of_mem _ hp)).plok (T:=3) yI.ok.own (hfew p (List.mem_cons_of_mem _ hp)) (fun b o h=>hm.at (.tail _ (.tail _ (.tail _ (.tail _ (.tail _ (.tail _ (.tail _ ((by first | exact List.mem_append_left _ h | exact List.mem_append_right _ (List.mem_append_left _ h))))))))))));rw [hpb] at h9;exact h9)) (Aa5 (.cons (.there .here) rfl (.cons (.there .here) rfl (.cons (.there .here) rfl (.cons (.there .here) rfl (.cons (.there .here) rfl (.cons (.there .here) rfl .nil)))))) (.cons .here rfl (.cons .here rfl (.cons .here rfl (.cons .here rfl (.cons .here rfl (.cons .here rfl .nil)))))) rfl ?_)
   refine Af3 (by kernel_rfl) ?_;refine RunB.one (i:=8) (by kernel_rfl) ?_;refine Ag9 rfl (Bt3 Bu7 (a:=[(seen:Int),fr,left]) rfl rfl rfl rfl (Bw5 yI.ok) .here) rfl rfl (Ab5 ?_)
   refine RunB.done (by kernel_rfl) ?_;exact Ad3 () trivial rfl (Sub.cons (t:=1) rfl (Sub.cons (t:=2) rfl (Sub.cons (t:=3) rfl (Sub.cons (t:=4) rfl (Sub.cons (t:=5) rfl (Sub.nil _)))))) (.cons .here rfl (.cons .here rfl (.cons .here rfl (.cons .here rfl (.cons .here rfl (.cons .here rfl (Pick.skip (Pick.same rfl))))))))
  intro k kI;rw [hM2];refine RunE.next ?_;refine csr ?_;refine Aa0 (Aa1 rfl (.tail _ (.head _)) Bi7 rfl) rfl rfl rfl ?_;refine Aa0 (Ab6 rfl (.tail _ (.tail _ (.tail _ (.tail _ (.head _))))) BD5 rfl) rfl rfl rfl ?_;refine Aa0 (Cv8 (Bt1 Bu7 (a:=[(seen:Int),fr,left]) rfl rfl (fun w hm=>hm.at (.head _)) rfl (Bw5 hOK2) AM3) (congrArg (fun o:Option Value=>o.getD (.agg #[.slice none 0 0,.int .i64 0])) hfind)) rfl rfl rfl ?_;refine Ab4 (Sto.store (cs:=zPl) (cs':=plC pb) rfl rfl (.there (.there (.there (.there (.there .here))))) Ao2 rfl (Ai1 rfl (AA7 _))) rfl rfl ?_;refine nnx ?_;refine RunC.ret ?_;refine Am3 ?_;exact Au5 ((pb,(M2,E)):PlA×Ms) ⟨hOK2,hpbm,hbest,yI.sub⟩ (.r1 rfl (.agg rfl (.tail _ (.tail _ (.tail _ (.tail _ (.tail _ (.head _)))))) Ao2 rfl)) rfl (Pick.cnt fun x=>by simp only [nC,Aq1,Ak1];omega)
theorem AJ9 (t:TrA) (hv:TV t.pl) (bt:Nat) (W0:World) (hb0:W0.heap[bt]? = some (tO t)) (hT0:TrOk W0 t) (x1 x3 x4 m:Nat):∀ (f seen:Nat) (fr left:Int) (s:Ms) (rest:Blks) (w0:World),cntB t.fr.l.length seen + f=t.fr.l.length→seen < 64→(fr = -1∨∃ u:Nat,fr=u∧u < t.fr.l.length)→0≤left∧left≤2880→OkM t.pl s →
    Mem W0 [] ((x3,mvO m)::(x1,x2O bt)::(x4,bonO x3 x1 x4)::(m,mapK ka (msM s.1))::(eB 3 s.2++rest)) w0→Calls Tryz.prog 141 #[.agg #[.int .i64 (seen:Int),.int .i64 fr,.int .i64 left],pV x3,pV x1,pV x4] w0 (Grow W0 [] (fun y:PlA×Ms=>plV y.1) (fun y=>(x3,mvO m)::(x1,x2O bt)::(x4,bonO x3 x1 x4)::(m,mapK ka (msM y.2.1))::(eB 3 y.2.2++rest)) (fun y=>OkM t.pl y.2∧OkP y.2.2 y.1∧y.1.pl=bestS t.pl seen fr left∧∀ e∈s.2,e∈y.2.2))
  | 0,seen,fr,left,s,rest,w0,hc,h1,h2,h3,h4,h5=>BH3 t hv bt W0 hb0 hT0 x1 x3 x4 m seen fr left s rest w0 (fun seen2 _ _ _ _ _ h6 _ _ _ _ _=>absurd (BA0 t.fr.l.length seen2) (by omega)) h1 h2 h3 h4 h5
  | f + 1,seen,fr,left,s,rest,w0,hc,h1,h2,h3,h4,h5=>BH3 t hv bt W0 hb0 hT0 x1 x3 x4 m seen fr left s rest w0 (fun seen2 fr2 left2 s2 rest2 w2 h6 g1 g2 g3 g4 g5=>AJ9 t hv bt W0 hb0 hT0 x1 x3 x4 m f seen2 fr2 left2 s2 rest2 w2 (by omega) g1 g2 g3 g4 g5) h1 h2 h3 h4 h5
end Go.Proofs.YtmkdbdbenfbkhaaGreatDoor
namespace Go.Proofs.YtmkdbdbenfbkhaaGreatDoor
open Go Go.Eng Go.Bk Go.Wk
abbrev tyO (l:Nat):Obj:=.cells [Value.func (.yield l) #[] #[]].toArray 192 (0,0)
abbrev onO (x1 x2 x3:Nat):Obj:=.cells [Value.func (.func 101) #[] #[pV x1,pV x2,pV x3]].toArray 192 (0,0)
def YldR {X:Type} (n:Nat) (total:List (List Nat)) (l:Nat) (U:X→Blks) (I:List Er→X→Prop) (Ix:X→Prop) (Ip:List PanicEntry→X→Prop) (W0:World):Prop :=
  ∀ pre v x tl w1,I pre x→SpR n total (pre++[v])→pre.length < total.length→Mem W0 [] (ebR 3 v++(U x++tl)) w1→YieldAt (Fr none) 8 Tryz.prog l (encR v).toArray w1 fun e w'=>∃ x',Mem W0 [] (U x'++tl) w'∧((e = .returned (.bool true)∧I (pre++[v]) x')∨(e = .returned (.bool false)∧Ix x')∨(∃ c,e = .panicked c∧Ip c x'))
abbrev vO (v:Nat):Obj:=.cells (natC v).toArray 3 (0,0)
set_option maxHeartbeats 1000000 in
theorem Cj4 {X:Type} (t:TrA) (hv:TV t.pl) (bt:Nat) (W0:World) (total:List (List Nat)) (yl:Nat) (U:X→Blks) (I:List Er→X→Prop) (Ix:X→Prop) (Ip:List PanicEntry→X→Prop) (hy:YldR t.fr.l.length total yl (fun x=>(bt,tO t)::U x) I Ix Ip W0) (x1 x2 x3:Nat) (f:Nat) (ord:List Nat) (pre:List Er) (x:X) (rest:Blks) (w0:World) (z:Eng.Own) (post:List (List Nat)) (hlen:ord.length=t.fr.l.length) (hord:∀ v∈ord,v < t.fr.l.length) (hI:I pre x) (hsp:SpR t.fr.l.length total pre) (htot:pre.map (·.1)++(toursX t.fr.l.length f ord++post)=total) (hz:OwnOk 1 z ord.length (ord.map natC).flatten)
    (hm0:Mem W0 [] ((bt,tO t)::(x1,x2O bt)::(x2,tyO yl)::(x3,onO x1 x2 x3)::(U x++(ownB 3 z ((ord).map natC).flatten++rest))) w0):Calls Tryz.prog 101 #[ownV z ord.length,pV x1,pV x2,pV x3] w0 (GrowQ W0 [] (fun y:Bool×(List Er×X)×Eng.Own=>.bool y.1) (fun y=>(bt,tO t)::(x1,x2O bt)::(x2,tyO yl)::(x3,onO x1 x2 x3)::(U y.2.1.2++(ownB 3 y.2.2 ((ord).map natC).flatten++rest))) (fun y=>SameB z y.2.2∧OwnOk 1 y.2.2 ord.length (ord.map natC).flatten∧((y.1=true∧I y.2.1.1 y.2.1.2∧SpR t.fr.l.length total y.2.1.1∧y.2.1.1.map (·.1)=pre.map (·.1)++toursX t.fr.l.length f ord)∨(y.1=false∧Ix y.2.1.2))) (fun p:List PanicEntry×X=>p.1) (fun p=>(bt,tO t)::(x1,x2O bt)::(x2,tyO yl)::(x3,onO x1 x2 x3)::(U p.2++rest)) (fun p=>Ip p.1 p.2)):=by
  have hn6:t.fr.l.length≤6:=hv.n;rw [Bj0 hlen] at htot ⊢;have hmem:ord∈total:=by rw [← htot];simp
  have hlt:pre.length < total.length:=by rw [← htot];simp
  have hm1:Mem W0 [] ((bt,tO t)::(x1,x2O bt)::(x2,tyO yl)::(x3,onO x1 x2 x3)::(U x++(ownB 3 z ((ord).map natC).flatten++(rest++[])))) w0:=by rw [List.append_nil];exact hm0
  refine Af0 hm1 Tryz.func101 rfl rfl ?_;refine csr ?_;refine vp rfl rfl rfl rfl ?_;refine nnx ?_;refine RunC.seq ?_;refine csr ?_;refine vp rfl rfl rfl rfl ?_;refine Aa0 (Am7 rfl Ak6 hz) rfl rfl rfl ?_;refine Aa0 (Aa1 rfl (.tail _ (.head _)) As6 rfl) rfl rfl rfl ?_;refine vp rfl rfl rfl rfl ?_;refine Aa0 (Val.fieldAddr rfl Aw9) rfl rfl rfl ?_;refine Aa0 (Aa1 rfl (.head _) Af4 rfl) rfl rfl rfl ?_;refine vp rfl rfl rfl rfl ?_;refine nnx ?_;refine RunC.cond rfl ?_ (fun h=>absurd h (by simp;omega))
  intro c0;clear c0;refine RunC.seq ?_;refine Bh8 ?_;refine AS8 3 As5 (.cons .here rfl (.cons .here rfl (.cons .here rfl (.cons .here rfl .nil)))) (by kernel_rfl) (by kernel_rfl) ?_ (hlo:=(fun _ _ h=>by rcases h with ⟨_,_,h,_⟩ | ⟨_,_,h,_⟩ <;> cases h))
  refine va 0 rfl (Aa1 rfl (.tail _ (.tail _ (.head _))) Bi8 rfl) rfl rfl rfl (.cons .here rfl (.cons .here rfl (.cons .here rfl (.cons .here rfl .nil)))) rfl ?_;refine va 1 rfl (Aa8 rfl) rfl rfl rfl (.cons .here rfl (.cons .here rfl (.cons .here rfl (.cons .here rfl .nil)))) rfl ?_;refine RunA.one (i:=2) (by kernel_rfl) (by kernel_rfl) ?_;refine Ae4 [(bt,_),(x1,_),(x2,_),(x3,_)] _ rfl rfl (Ab7 rfl CF8) rfl rfl rfl (fun w hm=>(by rw [Ad5 hz];exact Br6 ord (by omega) (ownQ z) (ownK z) 0 (ownC z) w (Ah1 (f:=natC) (fun _=>rfl) (by decide) hz (fun _ _ h=>hm.at (.tail _ (.tail _ (.tail _ (.tail _ ((by first | exact List.mem_append_right _ (List.mem_append_left _ h) | exact List.mem_append_right _ (List.mem_append_right _ (List.mem_append_left _ h)))))))))) (Ap3 hz))) (fun z16=>(Aa5 (.cons .here rfl (.cons .here rfl (.cons .here rfl (.cons .here rfl .nil)))) (.cons .here rfl (.cons .here rfl (.cons .here rfl (.cons .here rfl .nil)))) rfl ?_))
  obtain ⟨z16,hz16⟩:=z16;dsimp only;refine RunA.done (by kernel_rfl) ?_;refine BI2 ?_;refine RunAF.one (i:=3) (by kernel_rfl) ?_;refine RunIF.yieldQ rfl (Ae2 rfl rfl) rfl rfl rfl (fun w hm=>(Ah6 (α:=Er) (encs:=encR) (eb:=ebR 3) (U:=fun x=>(bt,tO t)::U x) (I:=I) (Ix:=Ix) (Ip:=Ip) (pre:=pre) (v:=(ord,z16)) (N':=fun x=>(bt,tO t)::(x1,x2O bt)::(x2,tyO yl)::(x3,onO x1 x2 x3)::(U x++(ownB 3 z ((ord).map natC).flatten++(rest++[])))) (tl:=(x1,x2O bt)::(x2,tyO yl)::(x3,onO x1 x2 x3)::(ownB 3 z ((ord).map natC).flatten++rest)) (fun x=>(Pick.cnt fun x=>by simp only [nC];omega)) (hy pre (ord,z16) x ((x1,x2O bt)::(x2,tyO yl)::(x3,onO x1 x2 x3)::(ownB 3 z ((ord).map natC).flatten++rest)) w hI (hsp.snoc hmem ⟨hlen,hord⟩ hz16) hlt (show Mem W0 [] (ownB 3 z16 ((ord).map natC).flatten++(((bt,tO t)::U x)++((x1,x2O bt)::(x2,tyO yl)::(x3,onO x1 x2 x3)::(ownB 3 z ((ord).map natC).flatten++rest)))) w from ((show Mem W0 [] ((bt,tO t)::(x1,x2O bt)::(x2,tyO yl)::(x3,onO x1 x2 x3)::(ownB 3 z16 ((ord).map natC).flatten++(U x++(ownB 3 z ((ord).map natC).flatten++(rest++[]))))) w from hm).pick (Pick.cnt fun x=>by simp only [nC];omega)))))) (fun p17 hp17=>?_) (fun z17 hz17=>(Ab9 ?_))
  ·refine Aa7 ?_
   refine Aa7 ?_;exact Al9 p17 hp17 rfl (Pick.cnt fun x=>by simp only [nC];omega)
  refine RunAF.one (i:=4) (by kernel_rfl) ?_;refine RunIF.of rfl ?_ (hlo:=(fun _ _ h=>by rcases h with ⟨_,_,h,_⟩ | ⟨_,_,h,_⟩ <;> cases h))
  refine Ac2 rfl (Aa8 rfl) rfl rfl rfl (Ab9 ?_)
  refine RunAF.done (by kernel_rfl) ?_;refine RunE.next ?_;refine RunC.ret ?_;refine Ab8 ?_;exact Ai3 ((z17.1,(pre++[(ord,z16)],z17.2),z):Bool×(List Er×X)×Eng.Own) ⟨SameB.rfl',hz,hz17.imp (fun h=>⟨h.1,h.2,hsp.snoc hmem ⟨hlen,hord⟩ hz16,by simp⟩) id⟩ (.r1 rfl (.tmp rfl)) rfl (Pick.cnt fun x=>by simp only [nC];omega)
set_option maxHeartbeats 2000000 in
theorem Cx2 {X:Type} (t:TrA) (hv:TV t.pl) (bt:Nat) (W0:World) (total:List (List Nat)) (yl:Nat) (U:X→Blks) (I:List Er→X→Prop) (Ix:X→Prop) (Ip:List PanicEntry→X→Prop) (hy:YldR t.fr.l.length total yl (fun x=>(bt,tO t)::U x) I Ix Ip W0) (x1 x2 x3:Nat):∀ (f:Nat) (ord:List Nat) (pre:List Er) (x:X) (rest:Blks) (w0:World) (z:Eng.Own) (post:List (List Nat)),ord.length + f=t.fr.l.length→(∀ v∈ord,v < t.fr.l.length)→I pre x→SpR t.fr.l.length total pre→pre.map (·.1)++(toursX t.fr.l.length f ord++post)=total→OwnOk 1 z ord.length (ord.map natC).flatten →
    Mem W0 [] ((bt,tO t)::(x1,x2O bt)::(x2,tyO yl)::(x3,onO x1 x2 x3)::(U x++(ownB 3 z ((ord).map natC).flatten++rest))) w0→Calls Tryz.prog 101 #[ownV z ord.length,pV x1,pV x2,pV x3] w0 (GrowQ W0 [] (fun y:Bool×(List Er×X)×Eng.Own=>.bool y.1) (fun y=>(bt,tO t)::(x1,x2O bt)::(x2,tyO yl)::(x3,onO x1 x2 x3)::(U y.2.1.2++(ownB 3 y.2.2 ((ord).map natC).flatten++rest))) (fun y=>SameB z y.2.2∧OwnOk 1 y.2.2 ord.length (ord.map natC).flatten∧((y.1=true∧I y.2.1.1 y.2.1.2∧SpR t.fr.l.length total y.2.1.1∧y.2.1.1.map (·.1)=pre.map (·.1)++toursX t.fr.l.length f ord)∨(y.1=false∧Ix y.2.1.2))) (fun p:List PanicEntry×X=>p.1) (fun p=>(bt,tO t)::(x1,x2O bt)::(x2,tyO yl)::(x3,onO x1 x2 x3)::(U p.2++rest)) (fun p=>Ip p.1 p.2)):=by
  intro f
  induction f with
  | zero =>
    intro ord pre x rest w0 z post hlen hord hI hsp htot hz hm0;exact Cj4 t hv bt W0 total yl U I Ix Ip hy x1 x2 x3 0 ord pre x rest w0 z post (by omega) hord hI hsp htot hz hm0
  | succ f ih =>
    intro ord pre x rest w0 z post hlen hord hI hsp htot hz hm0;have hn6:t.fr.l.length≤6:=hv.n;have hm1:Mem W0 [] ((bt,tO t)::(x1,x2O bt)::(x2,tyO yl)::(x3,onO x1 x2 x3)::(U x++(ownB 3 z ((ord).map natC).flatten++(rest++[])))) w0:=by rw [List.append_nil];exact hm0
    rw [BQ7 (by omega)] at htot ⊢;refine Af0 hm1 Tryz.func101 rfl rfl ?_;refine csr ?_;refine vp rfl rfl rfl rfl ?_;refine nnx ?_;refine RunC.seq ?_;refine csr ?_;refine vp rfl rfl rfl rfl ?_;refine Aa0 (Am7 rfl Ak6 hz) rfl rfl rfl ?_;refine Aa0 (Aa1 rfl (.tail _ (.head _)) As6 rfl) rfl rfl rfl ?_;refine vp rfl rfl rfl rfl ?_;refine Aa0 (Val.fieldAddr rfl Aw9) rfl rfl rfl ?_;refine Aa0 (Aa1 rfl (.head _) Af4 rfl) rfl rfl rfl ?_;refine vp rfl rfl rfl rfl ?_;refine nnx ?_;refine RunC.cond rfl (fun h=>absurd h (by simp;omega)) ?_;intro c0;clear c0;refine RunC.skip ?_;refine RunE.next ?_;refine RunC.seq ?_;refine csr ?_;refine Aa0 (Aa1 rfl (.tail _ (.head _)) As6 rfl) rfl rfl rfl ?_;refine vp rfl rfl rfl rfl ?_;refine Aa0 (Val.fieldAddr rfl Aw9) rfl rfl rfl ?_;refine Aa0 (Aa1 rfl (.head _) Af4 rfl) rfl rfl rfl ?_;refine vp rfl rfl rfl rfl ?_;refine nnx ?_;refine RunC.block ?_;refine Ak3 (Ad8 _) (news':=[(bt,tO t),(x1,x2O bt),(x2,tyO yl),(x3,onO x1 x2 x3)]++(U x++(ownB 3 z ((ord).map natC).flatten++(rest++[])))) (.cons .here rfl (.cons .here rfl (.cons .here rfl (.cons .here rfl (Pick.refl _))))) ?_;refine Aj3 (X:=(List Er×X)×Eng.Own) (n0:=[(bt,tO t),(x1,x2O bt),(x2,tyO yl),(x3,onO x1 x2 x3)]) (t.fr.l.length) (fun v y q=>(22,.int .i64 (v:Int))::(0,ownV y.2 ord.length)::q) (fun _ _=>_) (fun v y=>[]) (fun v y=>U y.1.2++(ownB 3 y.2 ((ord).map natC).flatten++(rest++[]))) (fun v y=>(SameB z y.2∧OwnOk 1 y.2 ord.length (ord.map natC).flatten)∧I y.1.1 y.1.2∧SpR t.fr.l.length total y.1.1∧y.1.1.map (·.1)=pre.map (·.1)++doneX t.fr.l.length f ord v) ((pre,x),z) ⟨⟨SameB.rfl',hz⟩,hI,hsp,by simp [doneX]⟩ rfl (Ac8 (t:=22) rfl rfl (Ac8 (t:=0) rfl rfl (Sub.cons (t:=1) rfl (Sub.cons (t:=2) rfl (Sub.cons (t:=3) rfl (Sub.cons (t:=21) rfl (Sub.nil _))))))) (Pick.cnt fun x=>by simp only [nC];omega) ?_;intro v y vN vI;obtain ⟨hyz,hyI,hysp,hye⟩:=vI;refine csr ?_;refine vp rfl rfl rfl rfl ?_;refine nnx ?_;refine RunC.seq ?_;refine RunC.cond rfl ?_ ?_
    ·intro c1
     have c1':=c1;clear c1;try simp only [nH] at c1'
     have hvN:v < t.fr.l.length:=by omega
     obtain ⟨o2,ho2⟩:∃ o,ord++[v]=o:=⟨_,rfl⟩;have hof:(ord.map natC).flatten++natC v=(o2.map natC).flatten:=by rw [Cm5,ho2]
     have hol:o2.length=ord.length + 1:=by rw [← ho2,List.length_append];rfl
     have hol2:o2.length + f=t.fr.l.length:=by omega
     have ho2i:∀ u∈o2,u < t.fr.l.length:=fun u hu=>by
       rw [← ho2] at hu
       rcases List.mem_append.1 hu with h | h
       · exact hord u h
       · rw [List.mem_singleton.1 h];exact hvN
     obtain ⟨post2,hpost2⟩:∃ p,restX t.fr.l.length f ord (v + 1)++post=p:=⟨_,rfl⟩;refine RunC.skip ?_;refine RunE.next ?_;refine RunC.seq ?_;refine RunC.block ?_;refine csr ?_;refine vp rfl rfl rfl rfl ?_;refine vp rfl rfl rfl rfl ?_;refine nnx ?_;refine RunC.seq ?_;refine An2 (X:=(Bool×(List Er×X))×Eng.Own) 10 (n0:=[(bt,_),(x1,_),(x2,_),(x3,_)]) (fun k q=>(37,.bool (!k.1.1))::(0,ownV k.2 ord.length)::q) (fun k=>[]) (fun k=>[]) (fun k=>U k.1.2.2++(ownB 3 k.2 ((ord).map natC).flatten++(rest++[]))) (fun k=>SameB z k.2∧OwnOk 1 k.2 ord.length (ord.map natC).flatten∧((k.1.1=true∧I k.1.2.1 k.1.2.2∧SpR t.fr.l.length total k.1.2.1∧k.1.2.1.map (·.1)=pre.map (·.1)++doneX t.fr.l.length f ord (v + 1))∨(k.1.1=false∧Ix k.1.2.2))) As5 (.cons .here rfl (.cons .here rfl (.cons .here rfl (.cons .here rfl .nil)))) (Sub.cons (t:=1) rfl (Sub.cons (t:=2) rfl (Sub.cons (t:=3) rfl (Sub.cons (t:=21) rfl (Sub.cons (t:=22) rfl (Sub.nil _)))))) (.cons .here rfl (.cons .here rfl (.cons .here rfl (.cons .here rfl .nil)))) ?_ ?_
     ·refine va 0 rfl (Aa8 rfl) rfl rfl rfl (.cons .here rfl (.cons .here rfl (.cons .here rfl (.cons .here rfl .nil)))) rfl ?_
      refine va 1 rfl (Aa8 rfl) rfl rfl rfl (.cons .here rfl (.cons .here rfl (.cons .here rfl (.cons .here rfl .nil)))) rfl ?_;refine RunA.one (i:=2) (by kernel_rfl) (by kernel_rfl) ?_;refine Ac4 rfl (Ab7 rfl CF7) rfl rfl rfl (fun w hm=>(by rw [Ad5 hyz.2];exact AR5 ord (ownQ y.2) (ownK y.2) 0 (ownC y.2) v w (Ah1 (f:=natC) (fun _=>rfl) (by decide) hyz.2 (fun _ _ h=>hm.at (.tail _ (.tail _ (.tail _ (.tail _ ((by first | exact List.mem_append_right _ (List.mem_append_left _ h) | exact List.mem_append_right _ (List.mem_append_right _ (List.mem_append_left _ h)))))))))) (by omega))) (Aa5 (.cons .here rfl (.cons .here rfl (.cons .here rfl (.cons .here rfl .nil)))) (.cons .here rfl (.cons .here rfl (.cons .here rfl (.cons .here rfl .nil)))) rfl ?_)
      refine va 3 rfl (Aa8 rfl) rfl rfl rfl (.cons .here rfl (.cons .here rfl (.cons .here rfl (.cons .here rfl .nil)))) rfl ?_;refine va 4 rfl (Aa8 rfl) rfl rfl rfl (.cons .here rfl (.cons .here rfl (.cons .here rfl (.cons .here rfl .nil)))) rfl ?_;refine Ah5 (dj:=29) rfl ?_ ?_
      ·intro g29
       have g29':=g29;clear g29;try simp only [nH] at g29'
       have hnc:ord.contains v=false:=by simpa using g29'
       have hnx:nextX t.fr.l.length f ord v=toursX t.fr.l.length f o2:=by (unfold nextX;rw [if_neg (by rw [hnc];decide),ho2])
       have htot2:y.1.1.map (·.1)++(toursX t.fr.l.length f o2++post2)=total:=by rw [← hnx,← hpost2,← htot,hye,Cj3 hvN];simp only [List.append_assoc]
       refine va 5 rfl (Aa1 rfl (.tail _ (.tail _ (.tail _ (.head _)))) Bi8 rfl) rfl rfl rfl (.cons .here rfl (.cons .here rfl (.cons .here rfl (.cons .here rfl .nil)))) rfl ?_;refine va 6 rfl (Aa8 rfl) rfl rfl rfl (.cons .here rfl (.cons .here rfl (.cons .here rfl (.cons .here rfl .nil)))) rfl ?_;refine va 7 rfl (Aa8 rfl) rfl rfl rfl (.cons .here rfl (.cons .here rfl (.cons .here rfl (.cons .here rfl .nil)))) rfl ?_;refine RunA.one (i:=8) (by kernel_rfl) (by kernel_rfl) ?_;refine Ae0 rfl (New.buildSlice (parts:=[(0,.tmp 32)]) rfl Ak6 Ap0 rfl rfl rfl rfl) rfl rfl rfl (fun b33=>(Aa5 (.cons .here rfl (.cons .here rfl (.cons .here rfl (.cons .here rfl (.cons .here rfl .nil))))) (.cons (.there .here) rfl (.cons (.there .here) rfl (.cons (.there .here) rfl (.cons (.there .here) rfl .nil)))) rfl ?_))
       refine RunA.one (i:=9) (by kernel_rfl) (by kernel_rfl) ?_;refine Ax6 [(b33,_),(bt,_),(x1,_),(x2,_),(x3,_)] _ _ _ rfl ?_;refine AK1 (A:=[(b33,_),(bt,_),(x1,_),(x2,_),(x3,_)]) (B:=_) (x:=y.2) (ys:=(natC v)) rfl rfl CG7 rfl rfl rfl hyz.2 rfl (fun h=>by cases h) (by decide) (fun w hm=>Ah3 (hm.at (.head _))) (Ak2 rfl) (by simp only [maxLen];omega) (by omega) rfl (fun z34 L34 hz34 hL34=>(Aa5 (.cons .here rfl (.cons .here rfl (.cons .here rfl (.cons .here rfl (.cons .here rfl .nil))))) (.cons .here rfl (.cons .here rfl (.cons .here rfl (.cons .here rfl (.cons .here rfl .nil))))) rfl ?_))
       refine Af3 (by kernel_rfl) ?_;refine RunB.one (i:=10) (by kernel_rfl) ?_;rw [hof] at hz34 ⊢;rw [← hol] at hz34 ⊢;refine AZ9 rfl (Ac1 rfl rfl Ce2) rfl rfl rfl (fun w hm=>(AL5 (nw':=fun k:Bool×(List Er×X)×Eng.Own=>(b33,vO v)::(bt,tO t)::(x1,x2O bt)::(x2,tyO yl)::(x3,onO x1 x2 x3)::(U k.2.1.2++(ownB 3 k.2.2 ((o2).map natC).flatten++(L34++(rest++[]))))) (np':=fun p:List PanicEntry×X=>(b33,vO v)::(bt,tO t)::(x1,x2O bt)::(x2,tyO yl)::(x3,onO x1 x2 x3)::(U p.2++(rest++[]))) (ih o2 y.1.1 y.1.2 ((b33,vO v)::(L34++rest)) w z34 post2 hol2 ho2i hyI hysp htot2 hz34 ((show Mem W0 [] ((b33,vO v)::(bt,tO t)::(x1,x2O bt)::(x2,tyO yl)::(x3,onO x1 x2 x3)::(ownB 3 z34 ((o2).map natC).flatten++(L34++(U y.1.2++(rest++[]))))) w from hm).pick (Pick.cnt fun x=>by simp only [nC];omega))) (fun k=>(Pick.cnt fun x=>by simp only [nC];omega)) (fun p=>(Pick.cnt fun x=>by simp only [nC];omega)))) (fun p35 hp35=>?_) (fun z35 hz35=>(Ab5 ?_))
       ·refine AB0 ?_
        refine Aa7 ?_;refine Ad1 ?_;refine Aa7 ?_;refine Aa7 ?_;refine Ad1 ?_;refine Aa7 ?_;exact Al9 p35 hp35 rfl (Pick.cnt fun x=>by simp only [nC];omega)
       refine RunB.one (i:=11) (by kernel_rfl) ?_;refine Ac2 rfl (Aa8 rfl) rfl rfl rfl (Ab5 ?_)
       refine RunB.one (i:=12) (by kernel_rfl) ?_;refine Ac2 rfl (Aa8 rfl) rfl rfl rfl (Ab5 ?_)
       refine RunB.done (by kernel_rfl) ?_;obtain ⟨x9,hx1,hx2,hx3⟩:=hL34.back (ys:=natC v) hz35.1 hyz.2 (m:=1) (by rw [hof,← hol];exact hz35.2.1);rw [hof] at hx3;exact Ad3 ((z35.1,z35.2.1),x9) ⟨hyz.1.trans hx1,hx2,hz35.2.2.imp (fun h=>⟨h.1,h.2.1,h.2.2.1,by rw [h.2.2.2,hye,Cv1 hvN,hnx,List.append_assoc]⟩) id⟩ rfl (Ac8 (t:=37) rfl rfl (Ac8 (t:=0) rfl (hx1.v _).symm (Sub.cons (t:=1) rfl (Sub.cons (t:=2) rfl (Sub.cons (t:=3) rfl (Sub.cons (t:=21) rfl (Sub.cons (t:=22) rfl (Sub.nil _)))))))) (.cons (.there .here) rfl (.cons (.there .here) rfl (.cons (.there .here) rfl (.cons (.there .here) rfl (Pick.skip (Pick.cnt fun q=>by have h9:=hx3 q;simp only [nC];omega))))))
      intro g29;have g29':=g29;clear g29;try simp only [nH] at g29'
      have hnc:ord.contains v=true:=by simpa using g29'
      have hnx:nextX t.fr.l.length f ord v=[]:=by (unfold nextX;rw [if_pos hnc])
      refine Ak0 (i:=5) rfl (by kernel_rfl) (by kernel_rfl) rfl rfl rfl (fun _ _ _ h=>h) (.cons .here rfl (.cons .here rfl (.cons .here rfl (.cons .here rfl .nil)))) rfl ?_;refine Ak0 (i:=6) rfl (by kernel_rfl) (by kernel_rfl) rfl rfl rfl (fun _ _ _ h=>h) (.cons .here rfl (.cons .here rfl (.cons .here rfl (.cons .here rfl .nil)))) rfl ?_;refine Ak0 (i:=7) rfl (by kernel_rfl) (by kernel_rfl) rfl rfl rfl (fun _ _ _ h=>h) (.cons .here rfl (.cons .here rfl (.cons .here rfl (.cons .here rfl .nil)))) rfl ?_;refine RunA.one (i:=8) (by kernel_rfl) (by kernel_rfl) ?_;refine Ac6 rfl rfl rfl rfl (Aa5 (.cons .here rfl (.cons .here rfl (.cons .here rfl (.cons .here rfl .nil)))) (.cons .here rfl (.cons .here rfl (.cons .here rfl (.cons .here rfl .nil)))) rfl ?_)
      refine RunA.one (i:=9) (by kernel_rfl) (by kernel_rfl) ?_;refine Ac6 rfl rfl rfl rfl (Aa5 (.cons .here rfl (.cons .here rfl (.cons .here rfl (.cons .here rfl .nil)))) (.cons .here rfl (.cons .here rfl (.cons .here rfl (.cons .here rfl .nil)))) rfl ?_)
      refine Af3 (by kernel_rfl) ?_;refine RunB.one (i:=10) (by kernel_rfl) ?_;refine Ac6 rfl rfl rfl rfl (Ab5 ?_)
      refine RunB.one (i:=11) (by kernel_rfl) ?_;refine Ac6 rfl rfl rfl rfl (Ab5 ?_)
      refine RunB.one (i:=12) (by kernel_rfl) ?_;refine Ac2 rfl (Aa8 rfl) rfl rfl rfl (Ab5 ?_)
      refine RunB.done (by kernel_rfl) ?_;exact Ad3 ((true,y.1),y.2) ⟨hyz.1,hyz.2,.inl ⟨rfl,hyI,hysp,by rw [Cv1 hvN,hnx,List.append_nil];exact hye⟩⟩ rfl (Ac8 (t:=37) rfl rfl (Ac8 (t:=0) rfl rfl (Sub.cons (t:=1) rfl (Sub.cons (t:=2) rfl (Sub.cons (t:=3) rfl (Sub.cons (t:=21) rfl (Sub.cons (t:=22) rfl (Sub.nil _)))))))) (.cons .here rfl (.cons .here rfl (.cons .here rfl (.cons .here rfl (Pick.cnt fun q=>by simp only [nC];omega)))))
     intro k kI;refine RunE.next ?_;refine RunC.cond rfl ?_ ?_
     ·intro c2
      have c2':=c2;clear c2;try simp only [nH] at c2'
      have hk2:Ix k.1.2.2:=(kI.2.2.resolve_left (fun h=>by rw [show k.1.1=false by simpa using c2'] at h;cases h.1)).2;refine csr ?_;refine vp rfl rfl rfl rfl ?_;refine nnx ?_;refine RunC.ret ?_;refine Ac5 ?_;refine Ab8 ?_;refine Ab8 ?_;refine Ac5 ?_;refine Ab8 ?_;exact Ai3 ((false,k.1.2,k.2):Bool×(List Er×X)×Eng.Own) ⟨kI.1,kI.2.1,.inr ⟨rfl,hk2⟩⟩ (.r1 rfl (.tmp rfl)) rfl (Pick.cnt fun x=>by simp only [nC];omega)
     intro c2;have c2':=c2;clear c2;try simp only [nH] at c2'
     have hk2:=kI.2.2.resolve_right (fun h=>by rw [show k.1.1=true by simpa using c2'] at h;cases h.1);refine RunC.skip ?_;refine Ac0 ?_;refine RunE.next ?_;refine RunC.region ?_;refine Aa0 (Val.add rfl rfl (IntWalk.i64_in _ ⟨by omega,by omega⟩)) rfl rfl rfl ?_;refine vp rfl rfl rfl rfl ?_;refine RunL.nil ?_;exact Ae7 (k.1.2,k.2) (by omega) ⟨⟨kI.1,kI.2.1⟩,hk2.2⟩ rfl (Ac8 (t:=22) rfl rfl (Ac8 (t:=0) rfl rfl (Sub.cons (t:=1) rfl (Sub.cons (t:=2) rfl (Sub.cons (t:=3) rfl (Sub.cons (t:=21) rfl (Sub.nil _))))))) (Pick.cnt fun x=>by simp only [nC];omega)
    intro c1;have c1':=c1;clear c1;try simp only [nH] at c1'
    obtain rfl:v=t.fr.l.length:=by omega
    rw [Cp5] at hye;refine RunC.exit ?_;refine Ac7 ?_;refine Ac7 ?_;refine Ab0 ?_;refine RunE.next ?_;refine csr ?_;refine vp rfl rfl rfl rfl ?_;refine nnx ?_;refine RunC.ret ?_;exact Ai3 ((true,y.1,y.2):Bool×(List Er×X)×Eng.Own) ⟨hyz.1,hyz.2,.inl ⟨rfl,hyI,hysp,hye⟩⟩ (.r1 rfl (.tmp rfl)) rfl (Pick.cnt fun x=>by simp only [nC];omega)
end Go.Proofs.YtmkdbdbenfbkhaaGreatDoor
namespace Go.Wk
open Go Go.Eng Go.RowKit Go.Bk
def openW (t:Tr):Except Int Unit:=if tourX t=true then .ok () else .error 1
def totX (t:Tr):List (List Nat):=toursX t.fr.length t.fr.length []
theorem AA6 {e:TypeId} {xs:List Value}:ownB e none xs=[]:=rfl
end Go.Wk
namespace Go.Proofs.YtmkdbdbenfbkhaaGreatDoor
open Go Go.Eng Go.Bk Go.Wk
-- Aw2
theorem AN0 (b:Nat) (W:World):Calls Tryz.prog 31 #[.nilIface,.pointer (some ⟨b,0,none⟩)] W (Pure (.tuple #[]) W):=by
  refine Aa2 Tryz.func31 rfl rfl ?_;refine st ?_;refine lv (Aj2 rfl Aw2) ?_;refine RunC.cond rfl ?_ (fun h=>absurd h (by simp))
  intro c0;clear c0;refine su ?_;exact Aa4 (.r0 rfl) (by first | rfl | simp)
theorem AN1 (b:Nat) (k:Int) (x:Value) (W:World) (hb:W.heap[b]? = some (.cells #[x] 42 (0,0))):Calls Tryz.prog 31 #[wmisf k,.pointer (some ⟨b,0,none⟩)] W (Turns b (.cells #[.int .i64 k] 42 (0,0)) (.tuple #[]) W):=by
  refine Aj0 hb Tryz.func31 rfl rfl ?_;refine st ?_;refine lv (Ah9 rfl Aw2) ?_;refine RunC.cond rfl (fun h=>absurd h (by simp)) ?_;intro c0;clear c0;refine st ?_;refine lv (Al7 rfl BF7) ?_;refine zn (New.alloc BD1) (fun b4=>?_)
  refine Ab4 (Sto.store rfl rfl .here Cs2 rfl rfl) rfl rfl ?_;refine st ?_;refine RunC.cond rfl (fun h=>absurd h (by simp)) ?_;intro c1;clear c1;refine su ?_;refine Ab4 (Al8 rfl rfl .here Ak8 rfl rfl) rfl rfl ?_;refine st ?_;exact Ah7 (chg:=[(b,_)]) (.r0 rfl) (fun _ hm=>⟨rfl,hm.drop⟩)
theorem Bu9 (b:Nat) (w:World):CallsDIn Fence.wide 8 Tryz.prog 30 #[.pointer (some ⟨b,0,none⟩)] .returning w fun e u w'=>(∃ v,e = .returned v)∧u = .returning∧Mem w [] [] w':=by
  refine Ag6 Tryz.func30 rfl fun c₀ cs hu=>?_
  refine wpS_region ?_;simp [wpOpsS,go_sem,recoverD,hu,Tryz.ntmps30,Exit.thenS]
  refine (AN0 b w).mono ?_
  rintro e w' ⟨rfl,hm⟩
  exact ⟨rfl,.returning,by rw [← hu],_,results_none rfl _ _ _,⟨_,rfl⟩,rfl,hm⟩
theorem Bu8 (b:Nat) (k:Int) (x:Value) (w:World) (hb:w.heap[b]? = some (.cells #[x] 42 (0,0))):CallsDIn Fence.wide 8 Tryz.prog 30 #[.pointer (some ⟨b,0,none⟩)] (.panicking [{ v:=wmisf k,recovered:=false }]) w fun e u w' =>
    (∃ v,e = .returned v)∧u = .panicking [{ v:=wmisf k,recovered:=true }]∧Mem w [(b,.cells #[.int .i64 k] 42 (0,0))] [] w':=by
  refine Ag6 Tryz.func30 rfl fun c₀ cs hu=>?_
  refine wpS_region ?_;simp [wpOpsS,go_sem,recoverD,hu,Tryz.ntmps30,Exit.thenS]
  refine (AN1 b k x w hb).mono ?_
  rintro e w' ⟨rfl,hm⟩
  exact ⟨rfl,.panicking [{ v:=wmisf k,recovered:=true }],rfl,_,results_none rfl _ _ _,⟨_,rfl⟩,rfl,hm⟩
theorem AA1:CatchesIn Tryz.prog 30 42 wmisf:=⟨Bu9,fun b k x w h=>Bu8 b k x w h⟩
theorem BI6 (b:Nat) (w:World):CallsD Tryz.prog 58 #[.pointer (some ⟨b,0,none⟩)] .returning w fun e u w'=>(∃ v,e = .returned v)∧u = .returning∧Mem w [] [] w':=by
  refine callsD_of_wpS Tryz.func58 rfl fun c₀ cs hu=>?_
  refine wpS_region ?_;simp [wpOpsS,go_sem,recoverD,hu,Tryz.ntmps58,Exit.thenS]
  refine (AN0 b w).mono ?_
  rintro e w' ⟨rfl,hm⟩
  exact ⟨rfl,.returning,by rw [← hu],_,results_none rfl _ _ _,⟨_,rfl⟩,rfl,hm⟩
theorem BI5 (b:Nat) (k:Int) (x:Value) (w:World) (hb:w.heap[b]? = some (.cells #[x] 42 (0,0))):CallsD Tryz.prog 58 #[.pointer (some ⟨b,0,none⟩)] (.panicking [{ v:=wmisf k,recovered:=false }]) w fun e u w' =>
    (∃ v,e = .returned v)∧u = .panicking [{ v:=wmisf k,recovered:=true }]∧Mem w [(b,.cells #[.int .i64 k] 42 (0,0))] [] w':=by
  refine callsD_of_wpS Tryz.func58 rfl fun c₀ cs hu=>?_
  refine wpS_region ?_;simp [wpOpsS,go_sem,recoverD,hu,Tryz.ntmps58,Exit.thenS]
  refine (AN1 b k x w hb).mono ?_
  rintro e w' ⟨rfl,hm⟩
  exact ⟨rfl,.panicking [{ v:=wmisf k,recovered:=true }],rfl,_,results_none rfl _ _ _,⟨_,rfl⟩,rfl,hm⟩
theorem Bb4:Catches Tryz.prog 58 42 wmisf:=⟨BI6,fun b k x w h=>BI5 b k x w h⟩

theorem Bb3 (v:Value) (W:World):Calls Tryz.prog 33 #[v] W (Pure (.bool true) W):=by
  refine Aa2 Tryz.func33 rfl rfl ?_;refine su ?_;exact Aa4 (.r1 rfl (.tmp rfl)) (by first | rfl | simp)
-- Cu6
theorem AM7 (t:TrA) (hs:TrSm t) (W:World) (hT:TrOk W t):Calls Tryz.prog 32 #[t.v,.func (.func 33) #[] #[]] W (TryN wmisf (openW t.pl) (fun _ b=>.pointer (some ⟨b,0,none⟩)) (fun _ b=>[(b,tO t)]) W):=by
  refine Aa2 Tryz.func32 rfl rfl ?_;refine st ?_;refine zn (New.box rfl) (fun b2=>?_)
  refine zc (zF rfl CK5) (fun w hm=>Bb1 t hs w (hT.mono0 hm)) ?_;refine Af5 (zF rfl Cu0) rfl rfl rfl (fun w hm=>AM8 _ _ w) (fun e8 he8=>?_) (fun v8 hv8=>?_)
  ·obtain ⟨er8,rfl⟩:=Ai6 he8
   refine Aa7 ?_;exact Ap8 (by unfold openW;rw [if_neg (by simp [er8])])
  obtain ⟨ok8,rfl⟩:=Am0 hv8;refine su ?_;refine lv (Val.build (parts:=[(0,.tmp 9),(1,.tmp 12)]) rfl Ch6 BK6 rfl) ?_;refine zn (New.box rfl) (fun b14=>?_)
  refine Ab1 (Ac1 rfl rfl Cu6) rfl rfl rfl (fun w hm=>Bb3 _ w) ?_;refine Af5 (zF rfl Cu0) rfl rfl rfl (fun w hm=>AM8 _ _ w) (fun e18 he18=>?_) (fun v18 hv18=>?_)
  ·obtain ⟨er18,rfl⟩:=Ai6 he18
   refine Aa7 ?_;exact Ap8 (by cases er18)
  obtain ⟨ok18,rfl⟩:=Am0 hv18;refine su ?_;exact AH2 (a:=()) b14 (.r1 rfl (.tmp rfl)) (by unfold openW;rw [if_pos ok8]) rfl (.cons .here rfl .nil)
set_option maxHeartbeats 1000000 in
theorem Cx3 (t:TrA) (hv:TV t.pl) (bt:Nat) (W0:World) (b1:Nat) :
    SeqR Tryz.prog 100 #[pV b1] encR (ebR 3) [(b1,x2O bt)] [(bt,tO t)] wmisf (fun xs=>SpR t.fr.l.length (totX t.pl) xs∧xs.map (·.1)=totX t.pl) (SpR t.fr.l.length (totX t.pl)) (fun _ _=>False) (totX t.pl).length W0:=by
  intro X U l I Ix Ip rest w0 u0 hy i0 hm0;have hm1:Mem W0 [] ((bt,tO t)::(b1,x2O bt)::(U u0++(rest++[]))) w0:=hm0.pick (Pick.cnt fun x=>by simp only [List.nil_append,List.cons_append,List.count_append,List.count_cons,List.count_nil];omega);refine Al2 (vs:=[.func (.yield l) #[] #[],pV b1]) hm1 Tryz.func100 rfl rfl (AF7 ?_) 8
  refine csr ?_;refine Ac3 (New.box rfl) rfl rfl rfl (fun b2=>?_)
  refine nsr ?_;refine Ac3 (New.alloc Ch5) rfl rfl rfl (fun b3=>?_)
  refine nsr ?_;refine vp rfl rfl rfl rfl ?_;refine Ab4 (Sto.store rfl rfl .here Bi8 rfl rfl) rfl rfl ?_;refine nnx ?_;refine RunC.region ?_;refine Aa0 (Aa1 rfl (.head _) Bi8 rfl) rfl rfl rfl ?_;refine AZ8 (Ac1 rfl rfl Ce2) rfl rfl rfl (fun w hm=>(AL5 (nw':=fun k:Bool×(List Er×X)×Eng.Own=>(bt,tO t)::(b1,x2O bt)::(U k.2.1.2++(rest++[]))) (np':=fun p:List PanicEntry×X=>(bt,tO t)::(b1,x2O bt)::(U p.2++(rest++[]))) (Cx2 t hv bt W0 (totX t.pl) l U I Ix Ip hy b1 b2 b3 t.fr.l.length [] [] u0 rest w none [] (by simp) (fun _ h=>by cases h) i0 (fun _ h=>by cases h) (by simp;rfl) OwnOk.start ((show Mem W0 [] ((b3,onO b1 b2 b3)::(b2,tyO l)::(bt,tO t)::(b1,x2O bt)::(U u0++(rest++[]))) w from hm).pick (Pick.cnt fun x=>by simp only [nC,AA6,List.nil_append];omega))) (fun k=>(Pick.cnt fun x=>by simp only [nC,AA6,List.nil_append];omega)) (fun p=>(Pick.cnt fun x=>by simp only [nC,AA6,List.nil_append];omega)))) (fun p6 hp6=>?_) (fun z6 hz6=>?_)
  ·exact fun _ w s=>⟨s.defers,p6.2,s.mem.pick (Pick.cnt fun x=>by simp only [nC,AA6,List.nil_append];omega),.inr (.inl ⟨p6.1,rfl,hp6⟩)⟩
  refine RunL.nil ?_;exact Ah7 (chg:=[]) (.r0 rfl) (fun _ hm=>⟨z6.2.1.2,hm.pick (Pick.cnt fun x=>by simp only [nC,AA6,List.nil_append];omega),.inl ⟨_,rfl,hz6.2.2.imp (fun h=>⟨z6.2.1.1,⟨h.2.2.1,h.2.2.2⟩,h.2.1⟩) (fun h=>h.2)⟩⟩)
-- Ce3
theorem Bi0 (bt:Nat) (W:World):Calls Tryz.prog 34 #[pV bt] W (News (fun b=>.func (.func 100) #[] #[pV b]) (fun b=>[(b,x2O bt)]) W):=by
  refine Aa2 Tryz.func34 rfl rfl ?_;refine st ?_;refine zn (New.box rfl) (fun b1=>?_)
  exact RunE.ret (chg:=[]) (.r1 rfl (.tmp rfl)) (fun _ hm=>⟨b1,rfl,hm.pick (.cons .here rfl .nil)⟩)
end Go.Proofs.YtmkdbdbenfbkhaaGreatDoor
namespace Go.Wk
open Go Go.Eng Go.RowKit Go.Bk
theorem Aj8 {α β:Type} {f:α→List β} {B:Nat}:∀ (l:List α),(∀ x∈l,(f x).length≤B)→(l.flatMap f).length≤l.length * B
  | [],_=>Nat.zero_le _
  | a::l,h=>by
    rw [List.flatMap_cons,List.length_append,List.length_cons,Nat.succ_mul];have h1:=h a (List.mem_cons_self ..);have h2:=Aj8 l (fun x hx=>h x (List.mem_cons_of_mem _ hx));omega
theorem AV6 {n:Nat} (hn:n≤6):∀ (f:Nat) (l:List Nat),(toursX n f l).length≤6 ^ f
  | 0,l=>by unfold toursX;split <;> simp
  | f + 1,l=>by
    by_cases h:l.length=n
    · rw [Bj0 h];exact Nat.pow_pos (by decide)
    · rw [BQ7 h]
      have h1:=Aj8 (f:=nextX n f l) (B:=6 ^ f) (List.range n) (fun v _=>by
        unfold nextX
        split
        · exact Nat.zero_le _
        · exact AV6 hn f _)
      rw [List.length_range] at h1;have h2:=Nat.mul_le_mul_right (6 ^ f) hn;rw [Nat.pow_succ];omega
theorem Cj6 {t:Tr} (h:TV t):(totX t).length≤46656:=by
  have h1:=AV6 h.n t.fr.length [];have h2:6 ^ t.fr.length≤6 ^ 6:=Nat.pow_le_pow_right (by decide) h.n;unfold totX;omega
def cntX (t:Tr) (q:Tr→Nat→Sp→Bool) (L:List (List Nat)):Nat:=(L.filter (isX t q)).length
theorem Cv3 (t:Tr) (q:Tr→Nat→Sp→Bool) (L:List (List Nat)):cntX t q L≤L.length:=List.length_filter_le _ _
theorem Bf4 {t:Tr} {q:Tr→Nat→Sp→Bool} {L:List (List Nat)} {l:List Nat} (h:isX t q l=true):cntX t q (L++[l])=cntX t q L + 1:=by unfold cntX;simp [h]
theorem BH0 {t:Tr} {q:Tr→Nat→Sp→Bool} {L:List (List Nat)} {l:List Nat} (h:isX t q l=false):cntX t q (L++[l])=cntX t q L:=by unfold cntX;simp [h]
def toursA (t:Tr):Int×Int×Int:=if tourX t=true then ((cntX t sureX (totX t):Int),(cntX t canX (totX t):Int),0) else (0,0,1)
theorem Cl7 {t:Tr} {a:Unit} (h:openW t = .ok a):tourX t=true:=by
  unfold openW at h
  split at h
  · assumption
  · cases h
theorem BU6 {t:Tr} {k:Int} (h:openW t = .error k):tourX t=false∧k=1:=by
  unfold openW at h
  split at h
  · cases h
  · rename_i h2
    cases h
    exact ⟨by simpa using h2,rfl⟩
end Go.Wk
namespace Go.Proofs.YtmkdbdbenfbkhaaGreatDoor
open Go Go.Eng Go.Bk Go.Wk
-- Ca4
set_option maxHeartbeats 1000000 in
theorem BB6 (t:TrA) (hs:TrSm t) (W:World) (hT:TrOk W t):Calls Tryz.prog 8 #[t.v] W (Pure (.tuple #[.int .i64 (toursA t.pl).1,.int .i64 (toursA t.pl).2.1,.int .i64 (toursA t.pl).2.2]) W):=by
  refine Ai9 Tryz.func8 rfl rfl ?_;refine csr ?_;refine Ac3 (New.box rfl) rfl rfl rfl (fun b1=>?_)
  refine Ac3 (New.alloc Ap0) rfl rfl rfl (fun b2=>?_)
  refine Ac3 (New.alloc Ap0) rfl rfl rfl (fun b3=>?_)
  refine Ac3 (New.alloc AF8) rfl rfl rfl (fun b4=>?_)
  refine nsr ?_;refine vp rfl rfl rfl rfl ?_;refine Ao6 rfl ?_;refine nsr ?_;refine Aa0 (Ab6 rfl (.tail _ (.tail _ (.tail _ (.head _)))) At4 rfl) rfl rfl rfl ?_;refine AC2 (Ab7 rfl Cu7) rfl rfl rfl (fun w hm=>AM7 t hs w (hT.mono0 hm)) (fun e9 he9=>?_) (fun a9 ha9 b9=>?_)
  ·obtain ⟨hbad,rfl⟩:=BU6 he9
   refine Aa7 ?_;exact Ba1 AA1 Ca4 .here (.r3 rfl (.one rfl (.tail _ (.tail _ (.head _))) Af4 rfl) (.one rfl (.tail _ (.head _)) Af4 rfl) (.one rfl (.head _) Ak8 rfl)) (by unfold toursA;rw [hbad];rfl)
  have htx:=Cl7 ha9;have hv:=CI9 htx;have hN:=Cj6 hv;have hn6:t.fr.l.length≤6:=hv.n;refine Ac3 (New.alloc Cv9) rfl rfl rfl (fun b5=>?_)
  refine Ab4 (Sto.store rfl rfl .here As6 rfl rfl) rfl rfl ?_;refine nnx ?_;refine RunC.seq ?_;refine csr ?_;refine Aa0 (Aa1 rfl (.head _) As6 rfl) rfl rfl rfl ?_;refine Ai2 (Ab7 rfl CN2) rfl rfl rfl (fun w hm=>Bi0 b9 w) (fun b11=>?_)
  refine nnx ?_;refine RunC.block ?_;refine Ak3 (Ad8 _) (news':=[(b9,tO t),(b5,x2O b9),(b2,.cells [Value.int .i64 ((0:Nat):Int)].toArray 3 (0,0)),(b3,.cells [Value.int .i64 ((0:Nat):Int)].toArray 3 (0,0)),(b4,.cells [Value.int .i64 0].toArray 42 (0,0)),(b11,x2O b9)]++([])) (.cons (.there (.there .here)) rfl (.cons (.there .here) rfl (.cons (.there (.there (.there .here))) rfl (.cons (.there (.there .here)) rfl (.cons (.there .here) rfl (.cons .here rfl .nil)))))) ?_;refine AT0 (α:=Er) (X:=Nat×Nat) (Y:=Unit) (encs:=encR) (fun v y q=>(6,.slice (ownQ v.2) v.1.length (ownC v.2))::q) (fun v y=>[]) (fun x=>[(b9,tO t),(b5,x2O b9),(b2,.cells [Value.int .i64 (x.1:Int)].toArray 3 (0,0)),(b3,.cells [Value.int .i64 (x.2:Int)].toArray 3 (0,0))]) (fun pre x=>x=(cntX t.pl sureX (pre.map (·.1)),cntX t.pl canX (pre.map (·.1)))) (fun _ _=>False) (0,0) rfl ([(b4,.cells [Value.int .i64 0].toArray 42 (0,0))]) (Sub.cons (t:=2) rfl (Sub.cons (t:=3) rfl (Sub.cons (t:=4) rfl (Sub.cons (t:=5) rfl (Sub.nil _))))) (Pick.cnt fun x=>by simp only [nC,Int.natCast_add,Int.cast_ofNat_Int];omega) (fun _=>rfl) rfl rfl Ce3 (fun lp D rc=>SeqR.at' (U:=(fun x:Nat×Nat=>[(b5,x2O b9),(b2,.cells [Value.int .i64 (x.1:Int)].toArray 3 (0,0)),(b3,.cells [Value.int .i64 (x.2:Int)].toArray 3 (0,0))])) (Cx3 t hv b9 W b11) lp D rc) ?_ ?_ ?_ ?_
  ·intro l D ob pre v x tl hI hsp
   have hvo:=hsp v (by simp);have hov:ownV v.2 v.1.length = .slice (ownQ v.2) v.1.length (ownC v.2):=Ad5 hvo.2.2;refine Ar2 (Ad8 _) (news':=[(l,ob),(D,dfrO),(b9,tO t),(b5,x2O b9),(b2,.cells [Value.int .i64 (x.1:Int)].toArray 3 (0,0)),(b3,.cells [Value.int .i64 (x.2:Int)].toArray 3 (0,0))]++(ebR 3 v++tl)) (Pick.cnt fun x=>by simp only [nC,Int.natCast_add,Int.cast_ofNat_Int];omega) ?_;refine Ad4 ?_;refine vp rfl rfl rfl rfl ?_;refine RunL.nil ?_;exact Ax9 () (Ac8 (t:=6) rfl hov (Sub.cons (t:=2) rfl (Sub.cons (t:=3) rfl (Sub.cons (t:=4) rfl (Sub.cons (t:=5) rfl (Sub.nil _)))))) (Pick.cnt fun x=>by simp only [nC,Int.natCast_add,Int.cast_ofNat_Int];omega)
  ·intro l D ob pre v y x tl hI hsp hlen
   have hvo:=hsp v (by simp);have hl6:v.1.length≤6:=by (rw [hvo.2.1.1];exact hn6)
   have hin:=hvo.2.1.2;have hc1:=Cv3 t.pl sureX (pre.map (·.1));have hc2:=Cv3 t.pl canX (pre.map (·.1));rw [List.length_map] at hc1 hc2;refine Ar2 (Ad8 _) (news':=[(l,ob),(D,dfrO),(b9,tO t),(b5,x2O b9),(b2,.cells [Value.int .i64 (x.1:Int)].toArray 3 (0,0)),(b3,.cells [Value.int .i64 (x.2:Int)].toArray 3 (0,0))]++(ebR 3 v++tl)) (Pick.cnt fun x=>by simp only [nC,Int.natCast_add,Int.cast_ofNat_Int];omega) ?_;refine RunCR.block ?_;refine RunCR.seq ?_;refine RunCR.seq ?_;refine Ad4 ?_;subst hI;dsimp only;refine Aa0 (Aa1 rfl (.tail _ (.tail _ (.tail _ (.head _)))) As6 rfl) rfl rfl rfl ?_;refine vp rfl rfl rfl rfl ?_;refine Aa0 (Val.build (parts:=[]) rfl BO7 Bl3 rfl) rfl rfl rfl ?_;refine Aa0 (Val.makeInterface rfl Cy5) rfl rfl rfl ?_;refine Ab1 (Ab7 rfl Ca2) rfl rfl rfl (fun w hm=>Ci6 t hv b9 w (hm.at (.tail _ (.tail _ (.head _)))) (hT.mono0 hm) v.1 hl6 hin (ownQ v.2) (ownK v.2) 0 (ownC v.2) (Ah1 (f:=natC) (fun _=>rfl) (by decide) hvo.2.2 (fun b o h=>hm.at (.tail _ (.tail _ (.tail _ (.tail _ (.tail _ (.tail _ ((by first | exact List.mem_append_left _ h | exact List.mem_append_right _ (List.mem_append_left _ h)))))))))))) ?_;refine RunL.nil ?_;refine RunER.next ?_;refine RunCR.cond rfl ?_ ?_
   ·intro c0
    have c0':=c0;clear c0;try simp only [nH] at c0'
    refine Ad4 ?_;refine Aa0 (Aa1 rfl (.tail _ (.tail _ (.tail _ (.tail _ (.head _))))) Af4 rfl) rfl rfl rfl ?_;refine Aa0 (Val.add rfl rfl (IntWalk.i64_in _ ⟨by omega,by omega⟩)) rfl rfl rfl ?_;refine Ab4 (Sto.store rfl rfl (.there (.there (.there (.there .here)))) Af4 rfl rfl) rfl rfl ?_;refine RunL.nil ?_;refine RunER.next ?_;refine RunCR.seq ?_;refine Ad4 ?_;refine Aa0 (Aa1 rfl (.tail _ (.tail _ (.tail _ (.head _)))) As6 rfl) rfl rfl rfl ?_;refine vp rfl rfl rfl rfl ?_;refine Aa0 (Val.build (parts:=[]) rfl BO6 Bl2 rfl) rfl rfl rfl ?_;refine Aa0 (Val.makeInterface rfl BV1) rfl rfl rfl ?_;refine Ab1 (Ab7 rfl Ca2) rfl rfl rfl (fun w hm=>BP4 t hv b9 w (hm.at (.tail _ (.tail _ (.head _)))) (hT.mono0 hm) v.1 hl6 hin (ownQ v.2) (ownK v.2) 0 (ownC v.2) (Ah1 (f:=natC) (fun _=>rfl) (by decide) hvo.2.2 (fun b o h=>hm.at (.tail _ (.tail _ (.tail _ (.tail _ (.tail _ (.tail _ ((by first | exact List.mem_append_left _ h | exact List.mem_append_right _ (List.mem_append_left _ h)))))))))))) ?_;refine RunL.nil ?_;refine RunER.next ?_;refine RunCR.cond rfl ?_ ?_
    ·intro c1
     have c1':=c1;clear c1;try simp only [nH] at c1'
     refine Ad4 ?_;refine Aa0 (Aa1 rfl (.tail _ (.tail _ (.tail _ (.tail _ (.tail _ (.head _)))))) Af4 rfl) rfl rfl rfl ?_;refine Aa0 (Val.add rfl rfl (IntWalk.i64_in _ ⟨by omega,by omega⟩)) rfl rfl rfl ?_;refine Ab4 (Sto.store rfl rfl (.there (.there (.there (.there (.there .here))))) Af4 rfl rfl) rfl rfl ?_;refine RunL.nil ?_;refine Ac0 ?_;exact Af9 (cntX t.pl sureX (pre.map (·.1)) + 1,cntX t.pl canX (pre.map (·.1)) + 1) (by rw [List.map_append];exact (congr (congrArg Prod.mk (Bf4 (by simpa using c0'))) (Bf4 (by simpa using c1'))).symm) (Pick.cnt fun x=>by simp only [nC,Int.natCast_add,Int.cast_ofNat_Int];omega)
    intro c1;have c1':=c1;clear c1;try simp only [nH] at c1'
    refine RunCR.skip ?_;refine Ac0 ?_;exact Af9 (cntX t.pl sureX (pre.map (·.1)) + 1,cntX t.pl canX (pre.map (·.1))) (by rw [List.map_append];exact (congr (congrArg Prod.mk (Bf4 (by simpa using c0'))) (BH0 (by simpa using c1'))).symm) (Pick.cnt fun x=>by simp only [nC,Int.natCast_add,Int.cast_ofNat_Int];omega)
   intro c0;have c0':=c0;clear c0;try simp only [nH] at c0'
   refine RunCR.skip ?_;refine RunER.next ?_;refine RunCR.seq ?_;refine Ad4 ?_;refine Aa0 (Aa1 rfl (.tail _ (.tail _ (.tail _ (.head _)))) As6 rfl) rfl rfl rfl ?_;refine vp rfl rfl rfl rfl ?_;refine Aa0 (Val.build (parts:=[]) rfl BO6 Bl2 rfl) rfl rfl rfl ?_;refine Aa0 (Val.makeInterface rfl BV1) rfl rfl rfl ?_;refine Ab1 (Ab7 rfl Ca2) rfl rfl rfl (fun w hm=>BP4 t hv b9 w (hm.at (.tail _ (.tail _ (.head _)))) (hT.mono0 hm) v.1 hl6 hin (ownQ v.2) (ownK v.2) 0 (ownC v.2) (Ah1 (f:=natC) (fun _=>rfl) (by decide) hvo.2.2 (fun b o h=>hm.at (.tail _ (.tail _ (.tail _ (.tail _ (.tail _ (.tail _ ((by first | exact List.mem_append_left _ h | exact List.mem_append_right _ (List.mem_append_left _ h)))))))))))) ?_;refine RunL.nil ?_;refine RunER.next ?_;refine RunCR.cond rfl ?_ ?_
   ·intro c1
    have c1':=c1;clear c1;try simp only [nH] at c1'
    refine Ad4 ?_;refine Aa0 (Aa1 rfl (.tail _ (.tail _ (.tail _ (.tail _ (.tail _ (.head _)))))) Af4 rfl) rfl rfl rfl ?_;refine Aa0 (Val.add rfl rfl (IntWalk.i64_in _ ⟨by omega,by omega⟩)) rfl rfl rfl ?_;refine Ab4 (Sto.store rfl rfl (.there (.there (.there (.there (.there .here))))) Af4 rfl rfl) rfl rfl ?_;refine RunL.nil ?_;refine Ac0 ?_;exact Af9 (cntX t.pl sureX (pre.map (·.1)),cntX t.pl canX (pre.map (·.1)) + 1) (by rw [List.map_append];exact (congr (congrArg Prod.mk (BH0 (by simpa using c0'))) (Bf4 (by simpa using c1'))).symm) (Pick.cnt fun x=>by simp only [nC,Int.natCast_add,Int.cast_ofNat_Int];omega)
   intro c1;have c1':=c1;clear c1;try simp only [nH] at c1'
   refine RunCR.skip ?_;refine Ac0 ?_;exact Af9 (cntX t.pl sureX (pre.map (·.1)),cntX t.pl canX (pre.map (·.1))) (by rw [List.map_append];exact (congr (congrArg Prod.mk (BH0 (by simpa using c0'))) (BH0 (by simpa using c1'))).symm) (Pick.cnt fun x=>by simp only [nC,Int.natCast_add,Int.cast_ofNat_Int];omega)
  ·intro D xs x hS hI
   rw [hS.2] at hI;subst hI;refine Ac0 ?_;refine RunE.next ?_;refine RunC.seq ?_;refine Az7 3 As5 (.cons .here rfl (.cons .here rfl (.cons .here rfl (.cons (.there .here) rfl (.cons (.there .here) rfl .nil))))) ?_;refine va 1 rfl (Aa1 rfl (.tail _ (.tail _ (.tail _ (.head _)))) Af4 rfl) rfl rfl rfl (.cons .here rfl (.cons .here rfl (.cons .here rfl (.cons (.there .here) rfl (.cons (.there .here) rfl .nil))))) rfl ?_;refine RunA.one (i:=0) (by kernel_rfl) (by kernel_rfl) ?_;refine Ac2 rfl (Aa1 rfl (.tail _ (.tail _ (.tail _ (.head _)))) Af4 rfl) rfl rfl rfl (Aa5 (.cons .here rfl (.cons .here rfl (.cons .here rfl (.cons (.there .here) rfl (.cons (.there .here) rfl .nil))))) (.cons .here rfl (.cons .here rfl (.cons .here rfl (.cons .here rfl (.cons .here rfl .nil))))) rfl ?_)
   refine RunA.one (i:=2) (by kernel_rfl) (by kernel_rfl) ?_;refine Ag9 rfl (Sto.store rfl rfl (.there (.there (.there .here))) Af4 rfl rfl) rfl rfl (Aa5 (.cons .here rfl (.cons .here rfl (.cons .here rfl (.cons (.there .here) rfl (.cons (.there .here) rfl .nil))))) (.cons .here rfl (.cons .here rfl (.cons .here rfl (.cons .here rfl (.cons .here rfl .nil))))) rfl ?_)
   refine Af3 (by kernel_rfl) ?_;refine RunB.one (i:=3) (by kernel_rfl) ?_;refine Ag9 rfl (Sto.store rfl rfl (.there (.there (.there (.there .here)))) Af4 rfl rfl) rfl rfl (Ab5 ?_)
   refine RunB.one (i:=4) (by kernel_rfl) ?_;refine Ag9 rfl (Sto.store rfl rfl (.there (.there (.there (.there (.there .here))))) Ak8 rfl rfl) rfl rfl (Ab5 ?_)
   refine RunB.done (by kernel_rfl) ?_;refine Au9 ?_;refine RunE.next ?_;refine RunC.ret ?_;exact Ba3 [D] AA1 Ca4 (.cons .here rfl (.cons .here rfl (.cons .here rfl (.cons .here rfl (.cons .here rfl (.cons .here rfl .nil)))))) (.r3 rfl (.one rfl (.tail _ (.tail _ (.head _))) Af4 rfl) (.one rfl (.tail _ (.tail _ (.tail _ (.head _)))) Af4 rfl) (.one rfl (.tail _ (.tail _ (.tail _ (.tail _ (.head _))))) Ak8 rfl)) (Ay8 (by unfold toursA;rw [if_pos htx]))
  intro _ _ _ hst;exact hst.elim
end Go.Proofs.YtmkdbdbenfbkhaaGreatDoor
namespace Go.Wk
open Go Go.Eng Go.RowKit Go.Bk
def mostL (t:Tr):List Nat:=(bestS t 0 (-1) t.dawn).1
structure BestOk (t:Tr) (z:PlA×Ms):Prop where
  ok:OkM t z.2
  pl:OkP z.2.2 z.1
  is:z.1.pl=bestS t 0 (-1) t.dawn
abbrev BestT (t:Tr):={ z:PlA×Ms // BestOk t z }
structure MostOk (t:Tr) (z:Eng.Own×OE):Prop where
  own:∀ e∈z.2,OwnOk 1 e.1 e.2.length (e.2.map natC).flatten
  is:OkP z.2 (z.1,mostL t,0)
abbrev MostT (t:Tr):={ z:Eng.Own×OE // MostOk t z }
theorem MostOk.plok {T:TypeId} {t:Tr} {z:Eng.Own×OE} {w:World} (h:MostOk t z) (hn:t.fr.length≤6) (hm:∀ b o,(b,o)∈eB T z.2→w.heap[b]? = some o):PlOk w (z.1,mostL t,0) :=
  h.is.plok h.own (Nat.le_trans (AR7 t 0 (-1) t.dawn) (Nat.le_trans hn (by decide))) hm
theorem BestOk.most {t:Tr} {z:PlA×Ms} (h:BestOk t z):z.1.2.1=mostL t:=congrArg Prod.fst h.is
end Go.Wk
namespace Go.Proofs.YtmkdbdbenfbkhaaGreatDoor
open Go Go.Eng Go.Bk Go.Wk
theorem BN5 (t:TrA) (hv:TV t.pl) (bt:Nat) (W:World) (hb:W.heap[bt]? = some (tO t)) (hT:TrOk W t):Calls Tryz.prog 59 #[pV bt] W (News (fun z:BestT t.pl=>plV z.1.1) (fun z=>eB 3 z.1.2.2++[]) W):=by
  have hd:0≤t.dawn∧t.dawn≤1440:=hv.dawn;refine Aa2 Tryz.func59 rfl rfl ?_;refine csr ?_;refine Ac3 (New.box rfl) rfl rfl rfl (fun b1=>?_)
  refine Ac3 (New.alloc Am4) rfl rfl rfl (fun b2=>?_)
  refine nsr ?_;refine Ac3 (Ay2 (K:=List Int) (kv:=ka)) rfl rfl rfl (fun b5=>?_)
  refine Ac3 (New.alloc Ch1) rfl rfl rfl (fun b3=>?_)
  refine Ab4 (Sto.store rfl rfl .here Bi7 rfl rfl) rfl rfl ?_;refine nsr ?_;refine Ac3 (New.alloc Ch0) rfl rfl rfl (fun b4=>?_)
  refine nsr ?_;refine vp rfl rfl rfl rfl ?_;refine Ab4 (Sto.store rfl rfl .here BD6 rfl rfl) rfl rfl ?_;refine nnx ?_;refine RunC.seq ?_;refine An2 (X:=PlA×Ms) 7 (n0:=[]) (fun k q=>q) (fun k=>[]) (fun k=>[(b2,plO k.1)]) (fun k=>eB 3 k.2.2++[]) (fun k=>BestOk t.pl k) As5 (.cons .here rfl (.cons .here rfl (.cons (.there .here) rfl (.cons (.there .here) rfl .nil)))) (Sub.cons (t:=2) rfl (Sub.nil _)) .nil ?_ ?_
  ·refine va 0 rfl (Aa1 rfl (.head _) BD6 rfl) rfl rfl rfl (.cons .here rfl (.cons .here rfl (.cons (.there .here) rfl (.cons (.there .here) rfl .nil)))) rfl ?_
   refine va 1 rfl (Aa1 rfl (.tail _ (.tail _ (.tail _ (.head _)))) As6 rfl) rfl rfl rfl (.cons .here rfl (.cons .here rfl (.cons (.there .here) rfl (.cons (.there .here) rfl .nil)))) rfl ?_;refine va 2 rfl (Aa8 rfl) rfl rfl rfl (.cons .here rfl (.cons .here rfl (.cons (.there .here) rfl (.cons (.there .here) rfl .nil)))) rfl ?_;refine va 3 rfl (Val.fieldAddr rfl Au2) rfl rfl rfl (.cons .here rfl (.cons .here rfl (.cons (.there .here) rfl (.cons (.there .here) rfl .nil)))) rfl ?_;refine va 4 rfl (Val.fieldAddr rfl AL7) rfl rfl rfl (.cons .here rfl (.cons .here rfl (.cons (.there .here) rfl (.cons (.there .here) rfl .nil)))) rfl ?_;refine va 5 rfl (Aa9 rfl hb (by simp) Af4 rfl) rfl rfl rfl (.cons .here rfl (.cons .here rfl (.cons (.there .here) rfl (.cons (.there .here) rfl .nil)))) rfl ?_;refine va 6 rfl (Val.build (parts:=[(0,.const (.int .i64 0)),(1,.const (.int .i64 (-1))),(2,.tmp 12)]) rfl Ba6 AG1 rfl) rfl rfl rfl (.cons .here rfl (.cons .here rfl (.cons (.there .here) rfl (.cons (.there .here) rfl .nil)))) rfl ?_;refine Af3 (by kernel_rfl) ?_;refine RunB.one (i:=7) (by kernel_rfl) ?_;refine Az4 rfl (Ac1 rfl rfl Bf0) rfl rfl rfl (fun w hm=>(Ao9 (nw':=fun k:PlA×Ms=>(b4,bonO b3 b1 b4)::(b3,mvO b5)::(b5,mapK ka (msM k.2.1))::(b2,.cells [Value.slice none 0 0,.int .i64 0].toArray 142 (0,0))::(b1,x2O bt)::(eB 3 k.2.2++[])) (AJ9 t hv bt W hb hT b1 b3 b4 b5 t.fr.l.length 0 (-1) t.dawn ([],[]) [(b2,.cells [Value.slice none 0 0,.int .i64 0].toArray 142 (0,0))] w (by rw [Ce8];omega) (by decide) (.inl rfl) (by omega) ⟨(fun _ h=>by cases h),(fun _ h=>by cases h),(fun _ h=>by cases h),(fun _ _ _ _ h=>by cases h)⟩ (hm.pick (.cons (.there .here) rfl (.cons (.there (.there (.there .here))) rfl (.cons .here rfl (.cons .here rfl (.cons .here rfl .nil)))))) ) (fun k=>(Pick.cnt fun x=>by simp only [nC];omega)))) (fun z14 hz14=>(Ab5 ?_))
   refine RunB.one (i:=8) (by kernel_rfl) ?_;refine Ag9 rfl (Sto.store (cs:=zPl) (cs':=plC z14.1) rfl rfl (.there (.there (.there .here))) Ao2 rfl (Ai1 rfl (AA7 _))) rfl rfl (Ab5 ?_)
   refine RunB.done (by kernel_rfl) ?_;exact Ad3 z14 ⟨hz14.1,hz14.2.1,hz14.2.2.1⟩ rfl (Sub.cons (t:=2) rfl (Sub.nil _)) (.cons (.there (.there (.there .here))) rfl (Pick.skip (Pick.skip (Pick.skip (Pick.skip (Pick.same rfl))))))
  intro k kI;refine RunE.next ?_;refine RunC.ret ?_;exact RunE.ret (chg:=[]) (.r1 rfl (.agg rfl (.head _) Ao2 rfl)) (fun _ hm=>⟨⟨k,kI⟩,rfl,hm.pick (Pick.cnt fun x=>by simp only [nC];omega)⟩)
theorem Ci5 (t:TrA) (hs:TrSm t) (htx:tourX t.pl=true) (W:World) (hT:TrOk W t):Calls Tryz.prog 32 #[t.v,.func (.func 33) #[] #[]] W (News (fun b:Nat=>pV b) (fun b=>[(b,tO t)]) W):=by
  have h1:=AM7 t hs W hT;rw [show openW t.pl = .ok () from if_pos htx] at h1
  exact Af8 h1 fun e w h=>by
    obtain ⟨b,h2,h3⟩:=h;exact ⟨b,h2,h3⟩
-- Cu2
theorem BO5 (t:TrA) (hs:TrSm t) (htx:tourX t.pl=true) (W:World) (hT:TrOk W t):Calls Tryz.prog 17 #[t.v] W (News (fun z:MostT t.pl=>.tuple #[ownV z.1.1 (mostL t.pl).length,.int .i64 0]) (fun z=>eB 3 z.1.2++[]) W):=by
  have hv:=CI9 htx;refine Ao0 Tryz.func17 rfl rfl ?_;refine csr ?_;refine Ac3 (New.box rfl) rfl rfl rfl (fun b1=>?_)
  refine vp rfl rfl rfl rfl ?_;refine Ac3 (New.alloc AF8) rfl rfl rfl (fun b3=>?_)
  refine nsr ?_;refine vp rfl rfl rfl rfl ?_;refine Ao6 rfl ?_;refine nsr ?_;refine Aa0 (Ab6 rfl (.tail _ (.head _)) At4 rfl) rfl rfl rfl ?_;refine Ai2 (Ab7 rfl Cu7) rfl rfl rfl (fun w hm=>Ci5 t hs htx w (hT.mono0 hm)) (fun b6=>?_)
  refine As3 (Ab7 rfl CM0) rfl rfl rfl (fun w hm=>BN5 t hv b6 w (hm.at (.head _)) (hT.mono0 hm)) (fun z7=>?_)
  obtain ⟨⟨⟨zq,zl,zo⟩,s7⟩,hz7⟩:=z7;obtain rfl:zl=mostL t.pl:=hz7.most;dsimp only;refine Aa0 (Val.field rfl Bq3 rfl) rfl rfl rfl ?_;refine vp rfl rfl rfl rfl ?_;refine Ab4 (Sto.store rfl rfl (.there .here) Ak8 rfl rfl) rfl rfl ?_;refine nnx ?_;refine RunC.ret ?_;exact BB9 Bb4 Cu2 (.r2 rfl (.tmp rfl) (.one rfl (.tail _ (.head _)) Ak8 rfl)) (fun _ hm=>⟨⟨(zq,s7.2),hz7.ok.own,hz7.pl⟩,rfl,hm.pick (Pick.cnt fun x=>by simp only [nC];omega)⟩)
end Go.Proofs.YtmkdbdbenfbkhaaGreatDoor
namespace Go.Wk
open Go Go.Eng Go.RowKit Go.Bk
abbrev rmisf (k:Int):Value:=.iface 229 (Value.agg #[Value.int .i64 k])
abbrev roO (r:RyA):Obj:=.cells r.cells.toArray 120 (0,0)
theorem Cx5 {l:List Int} (h:∀ n∈l,-35184372088832≤n∧n≤35184372088832):-35184372088832 * l.length≤l.sum∧l.sum≤35184372088832 * (l.length:Int):=by
  induction l with
  | nil=>simp
  | cons a l ih =>
    have h1:=h a (List.mem_cons_self ..);have h2:=ih fun n hn=>h n (List.mem_cons_of_mem _ hn)
    rw [List.sum_cons,List.length_cons];omega
def openR (r:Ry):Except Int Unit:=if royalX r=true then .ok () else .error 1
theorem Cl8 {r:Ry} {a:Unit} (h:openR r = .ok a):royalX r=true:=by
  unfold openR at h
  split at h
  · assumption
  · cases h
theorem BU7 {r:Ry} {k:Int} (h:openR r = .error k):royalX r=false∧k=1:=by
  unfold openR at h
  split at h
  · cases h
  · rename_i h2
    cases h
    exact ⟨by simpa using h2,rfl⟩
end Go.Wk
namespace Go.Proofs.YtmkdbdbenfbkhaaGreatDoor
open Go Go.Eng Go.Bk Go.Wk
theorem Ag3 (n l h:Int) (W:World):Calls Tryz.prog 150 #[.int .i64 n,.int .i64 l,.int .i64 h] W (Pure (.bool (within n l h)) W):=by
  refine Aa2 Tryz.func150 rfl rfl ?_;refine st ?_
  refine Ab3 (dj:=10) (dp:=14) 4 rfl (fun g10=>by
    have g10':=g10;try simp only [nH] at g10'
    refine sv ?_;exact zs g10
  ) (fun g10=>by
    have g10':=g10;try simp only [nH] at g10'
    iterate 3 refine Ac9 rfl rfl rfl ?_
    refine sv ?_;exact zs g10
  ) ?_
  refine su ?_;exact Aa4 (.r1 rfl (.tmp rfl)) (by unfold within;simp_all)
theorem AI0 (b:Bool) (k:Int) (W:World):Calls Tryz.prog 124 #[.bool b,.int .i64 k] W (Try rmisf (needX b k) W):=by
  refine Aa2 Tryz.func124 rfl rfl ?_;refine st ?_;refine cn rfl ?_ ?_
  ·intro c0'
   refine st ?_;refine lv (Val.build (parts:=[(0,.tmp 6)]) rfl BC8 BK3 rfl) ?_;refine lv (Val.makeInterface rfl BF5) ?_;refine Ap7 rfl ?_;exact Am8 (k:=k) (by simp [needX,show b=false by simpa using c0'])
  intro c0';refine st ?_;exact Ax7 (.r0 rfl) (by simp [needX,show b=true by simpa using c0'])
theorem Bv9 (l:List Int) (q:Option Addr) (b o c:Nat) (W:World) (hS:Sl W q b o 1 (l.map intC)) (hb:∀ n∈l,-35184372088832≤n∧n≤35184372088832) (hl:l.length≤10000):Calls Tryz.prog 72 #[.slice q l.length c] W (Pure (.int .i64 l.sum) W):=by
  refine Aa2 Tryz.func72 rfl rfl ?_;refine su ?_;refine Ad6 (l.length) (fun k q=>(7,.int .i64 (k:Int))::(2,.int .i64 ((l.take k).sum))::q) (fun _=>_) (fun _=>[]) (fun _=>True) trivial rfl (zE 7 rfl rfl (zE 2 rfl (by simp) (zS 5 rfl (zS 6 rfl (Sub.nil _))))) .nil ?_;intro k kN kI;clear kI;refine st ?_;refine cn rfl ?_ ?_
  ·intro c0'
   have hk:k < l.length:=by omega
   obtain ⟨y,hy⟩:∃ y,l[k]=y:=⟨_,rfl⟩;have hyb:=hb y (hy ▸ List.getElem_mem hk);have hsb:=Cx5 (l:=l.take k) (fun n hn=>hb n (List.mem_of_mem_take hn));rw [List.length_take] at hsb;refine st ?_;refine lv (Aa6 rfl rfl Ak6 (by omega) (by omega) (Sl.ptrM hS hk)) ?_;refine lv (Ab2 rfl (fun w hm=>Sl.loadM1 hS (by decide) hm (by simp) Af4 hk (v:=.int .i64 y) (by simp [intC,hy]))) ?_;refine lv (Val.add rfl rfl (IntWalk.i64_in _ ⟨by omega,by omega⟩)) ?_;refine lv (Val.add rfl rfl (IntWalk.i64_in _ ⟨by omega,by omega⟩)) ?_;exact Ad2 (by omega) trivial rfl (zE 7 rfl rfl (zE 2 rfl (by rw [AH9 hk hy]) (zS 5 rfl (zS 6 rfl (Sub.nil _))))) .nil
  intro c0';obtain rfl:k=l.length:=by omega
  rw [List.take_length];refine RunC.exit ?_;refine su ?_;refine Ab0 ?_;refine su ?_;exact Aa4 (.r1 rfl (.tmp rfl)) (by first | rfl | simp)
theorem AK3 (n:Int) (W:World):Calls Tryz.prog 236 #[.int .i64 n] W (Pure (.bool (!within n 0 1000)) W):=by
  refine Aa2 Tryz.func236 rfl rfl ?_;refine st ?_;refine zc (zF rfl At7) (fun w hm=>Ag3 _ _ _ w) ?_;exact Aa4 (.r1 rfl (.tmp rfl)) (by first | rfl | simp)
-- Ca8
theorem Bc0 (x:SA Int) (W:World) (hS:x.ok intC 1 W) (hl:x.l.length≤10000):Calls Tryz.prog 196 #[x.v] W (Pure (.bool (sharingX x.l)) W):=by
  obtain ⟨B,hB⟩:∃ B,x.l.any (fun n=>!within n 0 1000)=B:=⟨_,rfl⟩
  have hX:sharingX x.l=(within (x.l.length:Int) 1 5 && !B && decide (x.l.sum=1000)):=by
    have h1:x.l.all (fun n=>within n 0 1000) = !B:=by rw [← hB,List.not_any_eq_all_not];simp
    unfold sharingX;rw [h1]
    ac_rfl
  rw [hX];refine Aa2 Tryz.func196 rfl rfl ?_;refine su ?_;refine zc (zF rfl At7) (fun w hm=>Ag3 _ _ _ w) ?_
  refine Ab3 (dj:=7) (dp:=12) 5 rfl (fun g7=>by
    have g7':=g7;try simp only [nH] at g7'
    refine st ?_;refine Ab1 (zF rfl AR0) rfl rfl rfl (fun w hm=>(by have h9:=As2 x.l x.q x.b x.o x.c 236 #[] (fun n=>!within n 0 1000) w (hS.mono0 (by decide) hm) (by omega) Ca8 (fun i h w2 h2=>AK3 _ w2);rw [hB] at h9;exact h9)) ?_;refine sv ?_;exact zs g7
  ) (fun g7=>by
    have g7':=g7;try simp only [nH] at g7'
    iterate 4 refine Ac9 rfl rfl rfl ?_
    refine sv ?_;exact zs g7
  ) ?_
  refine st ?_
  refine Ab3 (dj:=13) (dp:=17) 4 rfl (fun g13=>by
    have g13':=g13;try simp only [nH] at g13'
    refine st ?_;refine Ab1 (zF rfl CL6) rfl rfl rfl (fun w hm=>Bv9 x.l x.q x.b x.o x.c w (hS.mono0 (by decide) hm) (fun n hn=>by have hBf:B=false:=(by revert g13;cases within (x.l.length:Int) 1 5 <;> cases B <;> simp);rw [hBf,List.any_eq_false] at hB;have h9:=hB n hn;simp [within] at h9;omega) hl) ?_;refine sv ?_;exact zs g13
  ) (fun g13=>by
    have g13':=g13;try simp only [nH] at g13'
    iterate 3 refine Ac9 rfl rfl rfl ?_
    refine sv ?_;exact zs g13
  ) ?_
  refine su ?_;exact Aa4 (.r1 rfl (.tmp rfl)) (by first | rfl | simp)
theorem Bk8 (t:Tm) (W:World):Calls Tryz.prog 192 #[.agg t.cells.toArray] W (Pure (.bool (!badTm t)) W):=by
  refine Aa2 Tryz.func192 rfl rfl ?_;refine st ?_;refine zn (New.box rfl) (fun b1=>?_)
  refine zc (zF rfl At7) (fun w hm=>Ag3 _ _ _ w) ?_
  refine Ab3 (dj:=6) (dp:=10) 4 rfl (fun g6=>by
    have g6':=g6;try simp only [nH] at g6'
    refine su ?_;refine Ab1 (zF rfl At7) rfl rfl rfl (fun w hm=>Ag3 _ _ _ w) ?_;refine sv ?_;exact zs g6
  ) (fun g6=>by
    have g6':=g6;try simp only [nH] at g6'
    iterate 3 refine Ac9 rfl rfl rfl ?_
    refine sv ?_;exact zs g6
  ) ?_
  refine st ?_
  refine Ab3 (dj:=11) (dp:=15) 4 rfl (fun g11=>by
    have g11':=g11;try simp only [nH] at g11'
    refine su ?_;refine Ab1 (zF rfl At7) rfl rfl rfl (fun w hm=>Ag3 _ _ _ w) ?_;refine sv ?_;exact zs g11
  ) (fun g11=>by
    have g11':=g11;try simp only [nH] at g11'
    iterate 3 refine Ac9 rfl rfl rfl ?_
    refine sv ?_;exact zs g11
  ) ?_
  refine su ?_;exact Aa4 (.r1 rfl (.tmp rfl)) (by unfold badTm;simp)
theorem Bc1 (t:Tm) (W:World):Calls Tryz.prog 191 #[.agg t.cells.toArray] W (Pure (.bool (badTm t)) W):=by
  refine Aa2 Tryz.func191 rfl rfl ?_;refine st ?_;refine zn (New.box rfl) (fun b1=>?_)
  refine zc (zF rfl CC9) (fun w hm=>Bk8 t w) ?_;exact Aa4 (.r1 rfl (.tmp rfl)) (by simp)
theorem AO5 (n:Int) (W:World):Calls Tryz.prog 193 #[.int .i64 n] W (Pure (.bool (!within n 0 1099511627776)) W):=by
  refine Aa2 Tryz.func193 rfl rfl ?_;refine st ?_;refine zc (zF rfl At7) (fun w hm=>Ag3 _ _ _ w) ?_;exact Aa4 (.r1 rfl (.tmp rfl)) (by first | rfl | simp)
theorem AK4 (n:Int) (W:World):Calls Tryz.prog 194 #[.int .i64 n] W (Pure (.bool (!within n 0 1048576)) W):=by
  refine Aa2 Tryz.func194 rfl rfl ?_;refine st ?_;refine zc (zF rfl At7) (fun w hm=>Ag3 _ _ _ w) ?_;exact Aa4 (.r1 rfl (.tmp rfl)) (by first | rfl | simp)
theorem Bc2 (x:SA Int) (W:World) (hS:x.ok intC 1 W) (hl:x.l.length≤10000):Calls Tryz.prog 195 #[x.v] W (Pure (.bool (!sharingX x.l)) W):=by
  refine Aa2 Tryz.func195 rfl rfl ?_;refine st ?_;refine zc (zF rfl CC5) (fun w hm=>Bc0 x w (hS.mono0 (by decide) hm) hl) ?_;exact Aa4 (.r1 rfl (.tmp rfl)) (by first | rfl | simp)
theorem Bc3 (x:Rp) (r:RyA) (hs:RySm r) (b1:Nat) (W:World) (h1:W.heap[b1]? = some (.cells r.cells.toArray 34 (0,0))):Calls Tryz.prog 197 #[.agg x.cells.toArray,.pointer (some ⟨b1,0,none⟩)] W (Pure (.bool (badRp r.pl x)) W):=by
  have hs1:=hs.terms;have hs2:=hs.prices;refine Aa2 Tryz.func197 rfl rfl ?_;refine st ?_;refine zn (New.box rfl) (fun b2=>?_)
  refine lu (Aa9 rfl h1 (by simp) BQ0 rfl) ?_;refine lv (Aj9 rfl rfl (IntWalk.i64_in _ ⟨by omega,by omega⟩)) ?_;refine zc (zF rfl At7) (fun w hm=>Ag3 _ _ _ w) ?_
  refine Ae1 (dj:=12) (dp:=21) 9 rfl (fun g12=>by
    have g12':=g12;try simp only [nH] at g12'
    refine su ?_;refine lu (Aa9 rfl h1 (by simp) As7 rfl) ?_;refine lv (Aj9 rfl rfl (IntWalk.i64_in _ ⟨by omega,by omega⟩)) ?_;refine Ab1 (zF rfl At7) rfl rfl rfl (fun w hm=>Ag3 _ _ _ w) ?_;refine sv ?_;exact zs g12
  ) (fun g12=>by
    have g12':=g12;try simp only [nH] at g12'
    iterate 8 refine Ac9 rfl rfl rfl ?_
    refine sv ?_;exact zs g12
  ) ?_
  refine st ?_
  refine Ae1 (dj:=22) (dp:=29) 7 rfl (fun g22=>by
    have g22':=g22;try simp only [nH] at g22'
    refine su ?_;refine Ab1 (zF rfl At7) rfl rfl rfl (fun w hm=>Ag3 _ _ _ w) ?_;refine sv ?_;exact zs g22
  ) (fun g22=>by
    have g22':=g22;try simp only [nH] at g22'
    iterate 6 refine Ac9 rfl rfl rfl ?_
    refine sv ?_;exact zs g22
  ) ?_
  refine st ?_
  refine Ae1 (dj:=30) (dp:=34) 4 rfl (fun g30=>by
    have g30':=g30;try simp only [nH] at g30'
    refine lv (Val.fieldAddr rfl AE7) ?_;refine Aa0 (Aa1 rfl (.head _) Af4 rfl) rfl rfl rfl ?_;refine sv ?_;exact zs g30
  ) (fun g30=>by
    have g30':=g30;try simp only [nH] at g30'
    iterate 3 refine Ac9 rfl rfl rfl ?_
    refine sv ?_;exact zs g30
  ) ?_
  refine su ?_;exact Aa4 (.r1 rfl (.tmp rfl)) (congrArg Value.bool (by unfold badRp within RyA.pl;dsimp only;rw [Bool.eq_iff_iff];simp only [Bool.or_eq_true,Bool.not_eq_true',Bool.and_eq_false_iff,decide_eq_false_iff_not,decide_eq_true_eq];omega))
theorem AO4 (r:RyA) (hs:RySm r) (W:World) (hR:RyOk W r):Calls Tryz.prog 125 #[r.v] W (Pure (.bool (royalX r.pl)) W):=by
  obtain ⟨h1,h2,h3,h4,h5,h6⟩:=hs;have hs:RySm r:=⟨h1,h2,h3,h4,h5,h6⟩;have hsl:r.pl.shares.length=r.shares.l.length:=by simp [RyA.pl]
  refine Aa2 Tryz.func125 rfl rfl ?_;refine st ?_;refine zn (New.box rfl) (fun b1=>?_)
  refine Ab3 (dj:=14) (dp:=19) 5 rfl (fun g14=>by
    have g14':=g14;try simp only [nH] at g14'
    refine lv (Val.fieldAddr rfl AE2) ?_;refine lv (Aa1 rfl (.head _) As7 rfl) ?_;refine Aa0 (Ad7 rfl Ak6) rfl rfl rfl ?_;refine sv ?_;exact zs g14
  ) (fun g14=>by
    have g14':=g14;try simp only [nH] at g14'
    iterate 4 refine Ac9 rfl rfl rfl ?_
    refine sv ?_;exact zs g14
  ) ?_
  refine st ?_
  refine Ab3 (dj:=20) (dp:=28) 8 rfl (fun g20=>by
    have g20':=g20;try simp only [nH] at g20'
    refine lv (Val.fieldAddr rfl Bd9) ?_;refine lv (Aa1 rfl (.head _) Cw9 rfl) ?_;refine lv (Ad7 rfl BJ7) ?_;refine lv (Val.fieldAddr rfl AE2) ?_;refine lv (Aa1 rfl (.head _) As7 rfl) ?_;refine Aa0 (Ad7 rfl Ak6) rfl rfl rfl ?_;refine sv ?_;exact zs g20
  ) (fun g20=>by
    have g20':=g20;try simp only [nH] at g20'
    iterate 7 refine Ac9 rfl rfl rfl ?_
    refine sv ?_;exact zs g20
  ) ?_
  refine st ?_
  refine Ab3 (dj:=29) (dp:=34) 5 rfl (fun g29=>by
    have g29':=g29;try simp only [nH] at g29'
    refine lv (Val.fieldAddr rfl AE1) ?_;refine lv (Aa1 rfl (.head _) BP8 rfl) ?_;refine Aa0 (Ad7 rfl AT6) rfl rfl rfl ?_;refine sv ?_;exact zs g29
  ) (fun g29=>by
    have g29':=g29;try simp only [nH] at g29'
    iterate 4 refine Ac9 rfl rfl rfl ?_
    refine sv ?_;exact zs g29
  ) ?_
  refine st ?_
  refine Ab3 (dj:=35) (dp:=43) 8 rfl (fun g35=>by
    have g35':=g35;try simp only [nH] at g35'
    refine lv (Val.fieldAddr rfl Bd8) ?_;refine lv (Aa1 rfl (.head _) As7 rfl) ?_;refine lv (Ad7 rfl Ak6) ?_;refine lv (Val.fieldAddr rfl Be0) ?_;refine lv (Aa1 rfl (.head _) BQ0 rfl) ?_;refine Aa0 (Ad7 rfl BS5) rfl rfl rfl ?_;refine sv ?_;exact zs g35
  ) (fun g35=>by
    have g35':=g35;try simp only [nH] at g35'
    iterate 7 refine Ac9 rfl rfl rfl ?_
    refine sv ?_;exact zs g35
  ) ?_
  refine su ?_;refine zc (zF rfl Cc1) (fun w hm=>AJ2 r.terms.l _ _ _ _ 191 #[] badTm w ((hR.mono0 hm).terms) (by omega) CD0 (fun i h w2 h2=>Bc1 _ w2)) ?_
  refine Ab3 (dj:=50) (dp:=56) 6 rfl (fun g50=>by
    have g50':=g50;try simp only [nH] at g50'
    refine su ?_;refine Ab1 (zF rfl AR0) rfl rfl rfl (fun w hm=>As2 r.paid.l _ _ _ _ 193 #[] (fun n=>!within n 0 1099511627776) w ((hR.mono0 hm).paid) (by omega) CC8 (fun i h w2 h2=>AO5 _ w2)) ?_;refine sv ?_;exact zs g50
  ) (fun g50=>by
    have g50':=g50;try simp only [nH] at g50'
    iterate 5 refine Ac9 rfl rfl rfl ?_
    refine sv ?_;exact zs g50
  ) ?_
  refine st ?_
  refine Ab3 (dj:=57) (dp:=63) 6 rfl (fun g57=>by
    have g57':=g57;try simp only [nH] at g57'
    refine su ?_;refine Ab1 (zF rfl AR0) rfl rfl rfl (fun w hm=>As2 r.prices.l _ _ _ _ 194 #[] (fun n=>!within n 0 1048576) w ((hR.mono0 hm).prices) (by omega) CC7 (fun i h w2 h2=>AK4 _ w2)) ?_;refine sv ?_;exact zs g57
  ) (fun g57=>by
    have g57':=g57;try simp only [nH] at g57'
    iterate 5 refine Ac9 rfl rfl rfl ?_
    refine sv ?_;exact zs g57
  ) ?_
  refine st ?_
  refine Ab3 (dj:=65) (dp:=67) 2 rfl (fun g65=>by
    have g65':=g65;try simp only [nH] at g65'
    refine sv ?_;exact zs g65
  ) (fun g65=>by
    have g65':=g65;try simp only [nH] at g65'
    refine Ac9 rfl rfl rfl ?_;refine sv ?_;exact zs g65
  ) ?_
  refine st ?_
  refine Ab3 (dj:=68) (dp:=74) 6 rfl (fun g68=>by
    have g68':=g68;try simp only [nH] at g68'
    refine su ?_;refine Ab1 (zF rfl Cc0) rfl rfl rfl (fun w hm=>AJ5 r.shares.l _ _ _ _ 195 #[] (fun x=>!sharingX x.l) w ((hR.mono0 hm).shares) (by omega) CC6 (fun i h w2 h2=>Bc2 _ w2 (((hR.mono0 hm).mono0 h2).rows _ (List.getElem_mem h)) (hs.rows _ (List.getElem_mem h)))) ?_;refine sv ?_;exact zs g68
  ) (fun g68=>by
    have g68':=g68;try simp only [nH] at g68'
    iterate 5 refine Ac9 rfl rfl rfl ?_
    refine sv ?_;exact zs g68
  ) ?_
  refine st ?_
  refine Ab3 (dj:=75) (dp:=81) 6 rfl (fun g75=>by
    have g75':=g75;try simp only [nH] at g75'
    refine su ?_;refine Ab1 (zF rfl Cb9) rfl rfl rfl (fun w hm=>AJ4 r.reports.l _ _ _ _ 197 #[.pointer (some ⟨b1,0,none⟩)] (badRp r.pl) w ((hR.mono0 hm).reports) (by omega) CC4 (fun i h w2 h2=>Bc3 _ r hs b1 w2 (h2.old_at (hm.at (.head _)) (by simp)))) ?_;refine sv ?_;exact zs g75
  ) (fun g75=>by
    have g75':=g75;try simp only [nH] at g75'
    iterate 5 refine Ac9 rfl rfl rfl ?_
    refine sv ?_;exact zs g75
  ) ?_
  refine su ?_;exact Aa4 (.r1 rfl (.tmp rfl)) (by unfold royalX;rw [Bv6,hsl];simp only [le4,CS8,eqc];exact congrArg Value.bool (by show _=_;simp only [RyA.pl];ac_rfl))
end Go.Proofs.YtmkdbdbenfbkhaaGreatDoor
namespace Go.Wk
open Go Go.Eng Go.RowKit Go.Bk
def cardsN (x:Rp):Nat:=2 ^ (x.last.toNat + 1) - 2 ^ x.first.toNat
def hitR (a b:Rp):Bool:=decide (a.kind=b.kind) && !decide (cardsN a &&& cardsN b=0)
def zRp:Rp:=⟨0,0,0,0⟩
def hitI (l:List Rp) (i k:Nat):Bool:=hitR (l.getD i zRp) (l.getD k zRp)
def innR (l:List Rp) (i:Nat):Option Nat:=(List.range i).find? (hitI l i)
def twiceL (l:List Rp):Option (Nat×Nat):=(List.range l.length).findSome? fun i=>(innR l i).map fun k=>(i,k)
def twiceA (r:Ry):Int×Int×Int:=if royalX r=true then (match twiceL r.reports with | some (i,k)=>((i:Int),(k:Int),0) | none=>(0,0,4)) else (0,0,1)
theorem AO7 {n i:Nat} (h:i < n):∃ z,List.range n=List.range i++i::z:=⟨(List.range n).drop (i + 1),by
  conv=>lhs;rw [← List.take_append_drop i (List.range n),List.drop_eq_getElem_cons (by rw [List.length_range];exact h)]
  rw [List.take_range,Nat.min_eq_left (Nat.le_of_lt h),List.getElem_range]⟩
theorem BG1 {l:List Rp} {i k:Nat} (hk:k < i) (hn:∀ j < k,hitI l i j=false) (h:hitI l i k=true):innR l i=some k:=by
  obtain ⟨z,hz⟩:=AO7 hk;unfold innR;rw [hz,List.find?_append,(List.find?_eq_none).2 (fun x hx=>by rw [List.mem_range] at hx;simp [hn x hx]),List.find?_cons,h];rfl
theorem Cn8 {l:List Rp} {i:Nat} (hn:∀ j < i,hitI l i j=false):innR l i=none :=
  (List.find?_eq_none).2 (fun x hx=>by rw [List.mem_range] at hx;simp [hn x hx])
theorem AV5 {l:List Rp} {i k:Nat} (hi:i < l.length) (hn:∀ j < i,innR l j=none) (h:innR l i=some k):twiceL l=some (i,k):=by
  obtain ⟨z,hz⟩:=AO7 hi;unfold twiceL;rw [hz,List.findSome?_append,(List.findSome?_eq_none_iff).2 (fun x hx=>by rw [List.mem_range] at hx;rw [hn x hx];rfl),List.findSome?_cons,h];rfl
theorem BJ0 {l:List Rp} (hn:∀ j < l.length,innR l j=none):twiceL l=none :=
  (List.findSome?_eq_none_iff).2 (fun x hx=>by rw [List.mem_range] at hx;rw [hn x hx];rfl)
theorem CJ0 {r:Ry} (h:royalX r=true) {x:Rp} (hx:x∈r.reports):0≤x.first∧x.first≤x.last∧x.last < 12∧0≤x.agent∧x.agent < r.terms.length∧0≤x.kind∧x.kind < r.prices.length:=by
  unfold royalX at h;simp only [Bool.and_eq_true,Bool.not_eq_true',List.any_eq_false] at h;have h2:=h.2 x hx;unfold badRp within at h2;simp only [Bool.or_eq_true,Bool.not_eq_true',Bool.and_eq_false_iff,decide_eq_false_iff_not,decide_eq_true_eq,not_or] at h2;omega
theorem CJ1 {r:Ry} (h:royalX r=true):r.reports.length≤20:=by
  unfold royalX at h;simp only [Bool.and_eq_true,decide_eq_true_eq] at h;omega
theorem BH1 {x:Rp} (h:0≤x.first∧x.first≤x.last∧x.last < 12):cardsN x < 4097:=by
  have h2:2 ^ (x.last.toNat + 1)≤2 ^ 12:=Nat.pow_le_pow_right (by decide) (by omega);unfold cardsN;exact Nat.lt_of_le_of_lt (Nat.sub_le _ _) (by omega)
end Go.Wk
namespace Go.Proofs.YtmkdbdbenfbkhaaGreatDoor
open Go Go.Eng Go.Bk Go.Wk
theorem Bk4 (b:Nat) (W:World):Calls Tryz.prog 45 #[.nilIface,.pointer (some ⟨b,0,none⟩)] W (Pure (.tuple #[]) W):=by
  refine Aa2 Tryz.func45 rfl rfl ?_;refine st ?_;refine lv (Aj2 rfl Aw2) ?_;refine RunC.cond rfl ?_ (fun h=>absurd h (by simp))
  intro c0;clear c0;refine su ?_;exact Aa4 (.r0 rfl) (by first | rfl | simp)
theorem Bk5 (b:Nat) (k:Int) (x:Value) (W:World) (hb:W.heap[b]? = some (.cells #[x] 42 (0,0))):Calls Tryz.prog 45 #[rmisf k,.pointer (some ⟨b,0,none⟩)] W (Turns b (.cells #[.int .i64 k] 42 (0,0)) (.tuple #[]) W):=by
  refine Aj0 hb Tryz.func45 rfl rfl ?_;refine st ?_;refine lv (Ah9 rfl Aw2) ?_;refine RunC.cond rfl (fun h=>absurd h (by simp)) ?_;intro c0;clear c0;refine st ?_;refine lv (Al7 rfl BF5) ?_;refine zn (New.alloc BC8) (fun b4=>?_)
  refine Ab4 (Sto.store rfl rfl .here Cr9 rfl rfl) rfl rfl ?_;refine st ?_;refine RunC.cond rfl (fun h=>absurd h (by simp)) ?_;intro c1;clear c1;refine su ?_;refine Ab4 (Al8 rfl rfl .here Ak8 rfl rfl) rfl rfl ?_;refine st ?_;exact Ah7 (chg:=[(b,_)]) (.r0 rfl) (fun _ hm=>⟨rfl,hm.drop⟩)
theorem Bk7 (b:Nat) (w:World):CallsD Tryz.prog 44 #[.pointer (some ⟨b,0,none⟩)] .returning w fun e u w'=>(∃ v,e = .returned v)∧u = .returning∧Mem w [] [] w':=by
  refine callsD_of_wpS Tryz.func44 rfl fun c₀ cs hu=>?_
  refine wpS_region ?_;simp [wpOpsS,go_sem,recoverD,hu,Tryz.ntmps44,Exit.thenS]
  refine (Bk4 b w).mono ?_
  rintro e w' ⟨rfl,hm⟩
  exact ⟨rfl,.returning,by rw [← hu],_,results_none rfl _ _ _,⟨_,rfl⟩,rfl,hm⟩
theorem Bk6 (b:Nat) (k:Int) (x:Value) (w:World) (hb:w.heap[b]? = some (.cells #[x] 42 (0,0))):CallsD Tryz.prog 44 #[.pointer (some ⟨b,0,none⟩)] (.panicking [{ v:=rmisf k,recovered:=false }]) w fun e u w' =>
    (∃ v,e = .returned v)∧u = .panicking [{ v:=rmisf k,recovered:=true }]∧Mem w [(b,.cells #[.int .i64 k] 42 (0,0))] [] w':=by
  refine callsD_of_wpS Tryz.func44 rfl fun c₀ cs hu=>?_
  refine wpS_region ?_;simp [wpOpsS,go_sem,recoverD,hu,Tryz.ntmps44,Exit.thenS]
  refine (Bk5 b k x w hb).mono ?_
  rintro e w' ⟨rfl,hm⟩
  exact ⟨rfl,.panicking [{ v:=rmisf k,recovered:=true }],rfl,_,results_none rfl _ _ _,⟨_,rfl⟩,rfl,hm⟩
theorem An6:Catches Tryz.prog 44 42 rmisf:=⟨Bk7,fun b k x w h=>Bk6 b k x w h⟩
theorem AU2 (v:Value) (W:World):Calls Tryz.prog 47 #[v] W (Pure (.bool true) W):=by
  refine Aa2 Tryz.func47 rfl rfl ?_;refine su ?_;exact Aa4 (.r1 rfl (.tmp rfl)) (by first | rfl | simp)
-- Cu5
theorem Bk3 (r:RyA) (hs:RySm r) (W:World) (hR:RyOk W r):Calls Tryz.prog 46 #[r.v,.func (.func 47) #[] #[]] W (TryN rmisf (openR r.pl) (fun _ b=>.pointer (some ⟨b,0,none⟩)) (fun _ b=>[(b,roO r)]) W):=by
  refine Aa2 Tryz.func46 rfl rfl ?_;refine st ?_;refine zn (New.box rfl) (fun b2=>?_)
  refine zc (zF rfl CF0) (fun w hm=>AO4 r hs w (hR.mono0 hm)) ?_;refine Af5 (zF rfl Cd7) rfl rfl rfl (fun w hm=>AI0 _ _ w) (fun e8 he8=>?_) (fun v8 hv8=>?_)
  ·obtain ⟨er8,rfl⟩:=Ai6 he8
   refine Aa7 ?_;exact Ap8 (by unfold openR;rw [if_neg (by simp [er8])])
  obtain ⟨ok8,rfl⟩:=Am0 hv8;refine su ?_;refine lv (Val.build (parts:=[(0,.tmp 9)]) rfl Ci0 BL0 rfl) ?_;refine zn (New.box rfl) (fun b11=>?_)
  refine Ab1 (Ac1 rfl rfl Cu5) rfl rfl rfl (fun w hm=>AU2 _ w) ?_;refine Af5 (zF rfl Cd7) rfl rfl rfl (fun w hm=>AI0 _ _ w) (fun e15 he15=>?_) (fun v15 hv15=>?_)
  ·obtain ⟨er15,rfl⟩:=Ai6 he15
   refine Aa7 ?_;exact Ap8 (by cases er15)
  obtain ⟨ok15,rfl⟩:=Am0 hv15;refine su ?_;exact AH2 (a:=()) b11 (.r1 rfl (.tmp rfl)) (by unfold openR;rw [if_pos ok8]) rfl (.cons .here rfl .nil)
theorem AU1 (x1 x2:Int) (f n:Nat) (h:f≤n∧n < 12) (W:World):Calls Tryz.prog 48 #[.agg #[.int .i64 x1,.int .i64 x2,.int .i64 (f:Int),.int .i64 (n:Int)]] W (Pure (.int .u64 ((2 ^ (n + 1) - 2 ^ f:Nat):Int)) W):=by
  have h1:2 ^ f≤2 ^ (n + 1):=Nat.pow_le_pow_right (by decide) (by omega);have h2:2 ^ (n + 1)≤2 ^ 12:=Nat.pow_le_pow_right (by decide) (by omega);have hc:(((2 ^ (n + 1):Nat):Int) - ((2 ^ f:Nat):Int))=((2 ^ (n + 1) - 2 ^ f:Nat):Int):=by omega
  refine Aa2 Tryz.func48 rfl rfl ?_;refine st ?_;refine zn (New.box rfl) (fun b1=>?_)
  refine Ae9 7 As5 (.cons .here rfl .nil) ?_;refine zw 0 ?_;refine zw 1 ?_;refine zv 2 rfl (Val.add rfl rfl (IntWalk.i64_in _ ⟨by omega,by omega⟩)) ?_;refine zv 3 rfl (Bh1 (b:=n + 1) rfl rfl (by show n + 1≤64;omega) (u64_in (n:=2 ^ (n + 1)) (by omega))) ?_;refine zw 4 ?_;refine zw 5 ?_;refine zv 6 rfl (Bh1 (b:=f) rfl rfl (by show f≤64;omega) (u64_in (n:=2 ^ f) (by omega))) ?_;refine zt ?_;refine zo 7 rfl (Aj9 rfl rfl (by rw [hc];exact u64_in (Nat.lt_of_le_of_lt (Nat.sub_le _ _) (by omega)))) ?_;refine zp 8 ?_;refine zd ?_;refine su ?_;exact Aa4 (.r1 rfl (.tmp rfl)) (by rw [hc])
theorem AD3 (x:Rp) (h:0≤x.first∧x.first≤x.last∧x.last < 12) (W:World):Calls Tryz.prog 48 #[.agg x.cells.toArray] W (Pure (.int .u64 ((cardsN x:Nat):Int)) W):=by
  obtain ⟨x1,x2,x3,x4⟩:=x;dsimp only at h;obtain ⟨f,rfl⟩:=Int.eq_ofNat_of_zero_le h.1;obtain ⟨n,rfl⟩:=Int.eq_ofNat_of_zero_le (show 0≤x4 by omega);exact AU1 x1 x2 f n (by omega) W
-- Bq6
set_option maxHeartbeats 1000000 in
theorem BB5 (r:RyA) (hs:RySm r) (hcap:r.reports.l.length≤r.reports.c) (hq:r.reports.q=none→r.reports.c=0) (W:World) (hR:RyOk W r):Calls Tryz.prog 12 #[r.v] W (Pure (.tuple #[.int .i64 (twiceA r.pl).1,.int .i64 (twiceA r.pl).2.1,.int .i64 (twiceA r.pl).2.2]) W):=by
  refine Ao0 Tryz.func12 rfl rfl ?_;refine csr ?_;refine Ac3 (New.box rfl) rfl rfl rfl (fun b1=>?_)
  refine vp rfl rfl rfl rfl ?_;refine vp rfl rfl rfl rfl ?_;refine Ac3 (New.alloc AF8) rfl rfl rfl (fun b4=>?_)
  refine nsr ?_;refine vp rfl rfl rfl rfl ?_;refine Ao6 rfl ?_;refine nsr ?_;refine Aa0 (Ab6 rfl (.tail _ (.head _)) BP7 rfl) rfl rfl rfl ?_;refine AC2 (Ab7 rfl CM5) rfl rfl rfl (fun w hm=>Bk3 r hs w (hR.mono0 hm)) (fun e12 he12=>?_) (fun a12 ha12 b12=>?_)
  ·obtain ⟨hbad,rfl⟩:=BU7 he12
   refine Aa7 ?_;exact Ba2 An6 Bq6 .here (.r3 rfl (.tmp rfl) (.tmp rfl) (.one rfl (.head _) Ak8 rfl)) (by unfold twiceA;rw [hbad];rfl)
  have hrx:=Cl8 ha12;have hl20:r.reports.l.length≤20:=CJ1 hrx;refine vp rfl rfl rfl rfl ?_;refine nnx ?_;refine RunC.seq ?_;refine csr ?_;refine vp rfl rfl rfl rfl ?_;refine vp rfl rfl rfl rfl ?_;refine Aa0 (Val.fieldAddr rfl AQ6) rfl rfl rfl ?_;refine Aa0 (Val.fieldAddr rfl AE1) rfl rfl rfl ?_;refine Aa0 (Aa1 rfl (.head _) BP8 rfl) rfl rfl rfl ?_;refine Aa0 (Ad7 rfl AT6) rfl rfl rfl ?_;refine vp rfl rfl rfl rfl ?_;refine nnx ?_;refine RunC.block ?_;refine Ad6 (r.reports.l.length) (fun i q=>(19,.int .i64 (i:Int))::q) (fun _=>_) (fun _=>[]) (fun i=>∀ j < i,innR r.reports.l j=none) (fun j h=>absurd h (by omega)) rfl (Ac8 (t:=19) rfl rfl (Sub.cons (t:=4) rfl (Sub.cons (t:=5) rfl (Sub.cons (t:=17) rfl (Sub.cons (t:=18) rfl (Sub.nil _)))))) (.cons .here rfl (.cons .here rfl (.cons .here rfl .nil))) ?_;intro i iN iI;refine csr ?_;refine vp rfl rfl rfl rfl ?_;refine nnx ?_;refine RunC.seq ?_;refine RunC.cond rfl ?_ ?_
  ·intro c0
   have c0':=c0;clear c0;try simp only [nH] at c0'
   have hi:i < r.reports.l.length:=by omega
   have hpq:=hR.reports.plainQ hi;obtain ⟨x,hx⟩:∃ x,r.reports.l[i]=x:=⟨_,rfl⟩;have hxo:=CJ0 hrx (show x∈r.pl.reports from hx ▸ List.getElem_mem hi)
   replace hxo:0≤x.first∧x.first≤x.last∧x.last < 12:=⟨hxo.1,hxo.2.1,hxo.2.2.1⟩
   have hxd:r.reports.l.getD i zRp=x:=(Ai5 hi).trans hx;have hxn:=BH1 hxo;refine RunC.skip ?_;refine RunE.next ?_;refine RunC.seq ?_;refine RunC.block ?_;refine csr ?_;refine vp rfl rfl rfl rfl ?_;refine Aa0 (Aa6 rfl rfl AT6 (by omega) (by omega) (Sl.ptrM hR.reports hi)) rfl rfl rfl ?_;refine Aa0 (Ab2 rfl (fun w hm=>Sl.loadX hR.reports (by decide) hm (by simp) AA3 hi hx)) rfl rfl rfl ?_;refine Ac3 (New.alloc Ba9) rfl rfl rfl (fun b7=>?_)
   refine vp rfl rfl rfl rfl ?_;refine Ab4 (Sto.store rfl rfl .here AA3 rfl rfl) rfl rfl ?_;refine nsr ?_;refine vp rfl rfl rfl rfl ?_;refine vp rfl rfl rfl rfl ?_;refine Aa0 (Val.fieldAddr rfl AQ6) rfl rfl rfl ?_;refine Aa0 (Val.fieldAddr rfl AE1) rfl rfl rfl ?_;refine Aa0 (Aa1 rfl (.tail _ (.head _)) BP8 rfl) rfl rfl rfl ?_;refine vp rfl rfl rfl rfl ?_;refine Aa0 (AK0 rfl rfl AT6 (j:=i) (by omega) hq hpq) rfl rfl rfl ?_;refine Aa0 (Ad7 rfl AT6) rfl rfl rfl ?_;refine vp rfl rfl rfl rfl ?_;refine nnx ?_;refine RunC.block ?_;refine Ad6 (i) (fun k q=>(32,.int .i64 (k:Int))::q) (fun _=>_) (fun _=>[]) (fun k=>∀ j < k,hitI r.reports.l i j=false) (fun j h=>absurd h (by omega)) rfl (Ac8 (t:=32) rfl rfl (Sub.cons (t:=4) rfl (Sub.cons (t:=5) rfl (Sub.cons (t:=6) rfl (Sub.cons (t:=7) rfl (Sub.cons (t:=17) rfl (Sub.cons (t:=18) rfl (Sub.cons (t:=19) rfl (Sub.cons (t:=30) rfl (Sub.cons (t:=31) rfl (Sub.nil _))))))))))) (.cons .here rfl (.cons .here rfl (.cons .here rfl (.cons .here rfl .nil)))) ?_;intro k kN kI;refine csr ?_;refine vp rfl rfl rfl rfl ?_;refine nnx ?_;refine RunC.seq ?_;refine RunC.cond rfl ?_ ?_
   ·intro c1
    have c1':=c1;clear c1;try simp only [nH] at c1'
    have hk:k < i:=by omega
    have hkl:k < r.reports.l.length:=by omega
    obtain ⟨y,hy⟩:∃ x,r.reports.l[k]=x:=⟨_,rfl⟩;have hyo:=CJ0 hrx (show y∈r.pl.reports from hy ▸ List.getElem_mem hkl)
    replace hyo:0≤y.first∧y.first≤y.last∧y.last < 12:=⟨hyo.1,hyo.2.1,hyo.2.2.1⟩
    have hyd:r.reports.l.getD k zRp=y:=(Ai5 hkl).trans hy;have hyn:=BH1 hyo;have hand:=Nat.and_le_left (n:=cardsN x) (m:=cardsN y);refine RunC.skip ?_;refine RunE.next ?_;refine RunC.seq ?_;refine RunC.block ?_;refine csr ?_;refine vp rfl rfl rfl rfl ?_;refine Aa0 (Aa6 rfl rfl AT6 (by omega) (by omega) (Sl.ptrM hR.reports hkl)) rfl rfl rfl ?_;refine Aa0 (Ab2 rfl (fun w hm=>Sl.loadX hR.reports (by decide) hm (by simp) AA3 hkl hy)) rfl rfl rfl ?_;refine Ac3 (New.alloc Ba9) rfl rfl rfl (fun b9=>?_)
    refine vp rfl rfl rfl rfl ?_;refine Ab4 (Sto.store rfl rfl .here AA3 rfl rfl) rfl rfl ?_;refine nnx ?_;refine RunC.seq ?_;refine Az7 9 As5 (.cons .here rfl (.cons .here rfl (.cons .here rfl (.cons .here rfl (.cons .here rfl .nil))))) ?_;refine va 0 rfl (Val.fieldAddr rfl AQ5) rfl rfl rfl (.cons .here rfl (.cons .here rfl (.cons .here rfl (.cons .here rfl (.cons .here rfl .nil))))) rfl ?_;refine va 1 rfl (Aa1 rfl (.tail _ (.head _)) Af4 rfl) rfl rfl rfl (.cons .here rfl (.cons .here rfl (.cons .here rfl (.cons .here rfl (.cons .here rfl .nil))))) rfl ?_;refine va 2 rfl (Val.fieldAddr rfl AQ5) rfl rfl rfl (.cons .here rfl (.cons .here rfl (.cons .here rfl (.cons .here rfl (.cons .here rfl .nil))))) rfl ?_;refine va 3 rfl (Aa1 rfl (.head _) Af4 rfl) rfl rfl rfl (.cons .here rfl (.cons .here rfl (.cons .here rfl (.cons .here rfl (.cons .here rfl .nil))))) rfl ?_;refine va 4 rfl (Aa8 rfl) rfl rfl rfl (.cons .here rfl (.cons .here rfl (.cons .here rfl (.cons .here rfl (.cons .here rfl .nil))))) rfl ?_;refine va 5 rfl (Aa8 rfl) rfl rfl rfl (.cons .here rfl (.cons .here rfl (.cons .here rfl (.cons .here rfl (.cons .here rfl .nil))))) rfl ?_;refine Ah5 (dj:=42) rfl ?_ ?_
    ·intro g42
     have g42':=g42;clear g42;try simp only [nH] at g42'
     refine va 6 rfl (Ab6 rfl (.tail _ (.head _)) AA3 rfl) rfl rfl rfl (.cons .here rfl (.cons .here rfl (.cons .here rfl (.cons .here rfl (.cons .here rfl .nil))))) rfl ?_;refine va 8 rfl (Ab6 rfl (.head _) AA3 rfl) rfl rfl rfl (.cons .here rfl (.cons .here rfl (.cons .here rfl (.cons .here rfl (.cons .here rfl .nil))))) rfl ?_;refine RunA.one (i:=7) (by kernel_rfl) (by kernel_rfl) ?_;refine Ac4 rfl (Ab7 rfl Cu4) rfl rfl rfl (fun w hm=>AD3 x hxo w) (Aa5 (.cons .here rfl (.cons .here rfl (.cons .here rfl (.cons .here rfl (.cons .here rfl .nil))))) (.cons .here rfl (.cons .here rfl (.cons .here rfl (.cons .here rfl (.cons .here rfl .nil))))) rfl ?_)
     refine Af3 (by kernel_rfl) ?_;refine RunB.one (i:=9) (by kernel_rfl) ?_;refine Ac4 rfl (Ab7 rfl Cu4) rfl rfl rfl (fun w hm=>AD3 y hyo w) (Ab5 ?_)
     refine RunB.one (i:=10) (by kernel_rfl) ?_;refine Ac2 rfl (Val.and (a:=cardsN x) (b:=cardsN y) rfl rfl (by show _ < 2 ^ 64;omega) (by show _ < 2 ^ 64;omega) (u64_in (by omega))) rfl rfl rfl (Ab5 ?_)
     refine RunB.one (i:=11) (by kernel_rfl) ?_;refine Ac2 rfl (Aa8 rfl) rfl rfl rfl (Ab5 ?_)
     refine RunB.one (i:=12) (by kernel_rfl) ?_;refine Ac2 rfl (Aa8 rfl) rfl rfl rfl (Ab5 ?_)
     refine RunB.done (by kernel_rfl) ?_;refine Au9 ?_;refine RunE.next ?_;refine RunC.cond rfl ?_ ?_
     ·intro c2
      have c2':=c2;clear c2;try simp only [nH] at c2'
      have hyes:hitI r.reports.l i k=true:=by (unfold hitI hitR;rw [hxd,hyd];simp_all)
      have htw:=AV5 hi iI (BG1 hk kI hyes);refine csr ?_
      iterate 4 refine vp rfl rfl rfl rfl ?_
      refine Ab4 (Sto.store rfl rfl (.there (.there (.there .here))) Ak8 rfl rfl) rfl rfl ?_;refine nnx ?_;refine RunC.ret ?_;refine Ac5 ?_;refine Ab8 ?_;refine Ab8 ?_;refine Ac5 ?_;refine Ac5 ?_;refine Ab8 ?_;refine Ab8 ?_;refine Ac5 ?_;refine Ab8 ?_;exact Au6 An6 Bq6 (.r3 rfl (.tmp rfl) (.tmp rfl) (.one rfl (.tail _ (.tail _ (.tail _ (.head _)))) Ak8 rfl)) (by unfold twiceA;rw [if_pos hrx,show r.pl.reports=r.reports.l from rfl,htw])
     intro c2;have c2':=c2;clear c2;try simp only [nH] at c2'
     have hno:hitI r.reports.l i k=false:=by (unfold hitI hitR;rw [hxd,hyd];simp_all)
     refine RunC.skip ?_;refine Ac0 ?_;refine RunE.next ?_;refine RunC.region ?_;refine Aa0 (Val.add rfl rfl (IntWalk.i64_in _ ⟨by omega,by omega⟩)) rfl rfl rfl ?_;refine vp rfl rfl rfl rfl ?_;refine RunL.nil ?_;exact Ad2 (by omega) (fun j h=>by rcases Nat.lt_or_ge j k with h9 | h9;exact kI j h9;(obtain rfl:j=k:=by omega);exact hno) rfl (Ac8 (t:=32) rfl rfl (Sub.cons (t:=4) rfl (Sub.cons (t:=5) rfl (Sub.cons (t:=6) rfl (Sub.cons (t:=7) rfl (Sub.cons (t:=17) rfl (Sub.cons (t:=18) rfl (Sub.cons (t:=19) rfl (Sub.cons (t:=30) rfl (Sub.cons (t:=31) rfl (Sub.nil _))))))))))) (.cons (.there .here) rfl (.cons (.there .here) rfl (.cons (.there .here) rfl (.cons (.there .here) rfl .nil))))
    intro g42;have g42':=g42;clear g42;try simp only [nH] at g42'
    refine Ak0 (i:=6) rfl (by kernel_rfl) (by kernel_rfl) rfl rfl rfl (fun _ _ _ h=>h) (.cons .here rfl (.cons .here rfl (.cons .here rfl (.cons .here rfl (.cons .here rfl .nil))))) rfl ?_;refine Ak0 (i:=8) rfl (by kernel_rfl) (by kernel_rfl) rfl rfl rfl (fun _ _ _ h=>h) (.cons .here rfl (.cons .here rfl (.cons .here rfl (.cons .here rfl (.cons .here rfl .nil))))) rfl ?_;refine RunA.one (i:=7) (by kernel_rfl) (by kernel_rfl) ?_;refine Ac6 rfl rfl rfl rfl (Aa5 (.cons .here rfl (.cons .here rfl (.cons .here rfl (.cons .here rfl (.cons .here rfl .nil))))) (.cons .here rfl (.cons .here rfl (.cons .here rfl (.cons .here rfl (.cons .here rfl .nil))))) rfl ?_)
    refine Af3 (by kernel_rfl) ?_;refine RunB.one (i:=9) (by kernel_rfl) ?_;refine Ac6 rfl rfl rfl rfl (Ab5 ?_)
    refine RunB.one (i:=10) (by kernel_rfl) ?_;refine Ac6 rfl rfl rfl rfl (Ab5 ?_)
    refine RunB.one (i:=11) (by kernel_rfl) ?_;refine Ac6 rfl rfl rfl rfl (Ab5 ?_)
    refine RunB.one (i:=12) (by kernel_rfl) ?_;refine Ac2 rfl (Aa8 rfl) rfl rfl rfl (Ab5 ?_)
    refine RunB.done (by kernel_rfl) ?_;refine Au9 ?_;refine RunE.next ?_;refine RunC.cond rfl ?_ ?_
    ·intro c2
     have c2':=c2;clear c2;try simp only [nH] at c2'
     have hyes:hitI r.reports.l i k=true:=by (unfold hitI hitR;rw [hxd,hyd];simp_all)
     have htw:=AV5 hi iI (BG1 hk kI hyes);refine csr ?_
     iterate 4 refine vp rfl rfl rfl rfl ?_
     refine Ab4 (Sto.store rfl rfl (.there (.there (.there .here))) Ak8 rfl rfl) rfl rfl ?_;refine nnx ?_;refine RunC.ret ?_;refine Ac5 ?_;refine Ab8 ?_;refine Ab8 ?_;refine Ac5 ?_;refine Ac5 ?_;refine Ab8 ?_;refine Ab8 ?_;refine Ac5 ?_;refine Ab8 ?_;exact Au6 An6 Bq6 (.r3 rfl (.tmp rfl) (.tmp rfl) (.one rfl (.tail _ (.tail _ (.tail _ (.head _)))) Ak8 rfl)) (by unfold twiceA;rw [if_pos hrx,show r.pl.reports=r.reports.l from rfl,htw])
    intro c2;have c2':=c2;clear c2;try simp only [nH] at c2'
    have hno:hitI r.reports.l i k=false:=by (unfold hitI hitR;rw [hxd,hyd];simp_all)
    refine RunC.skip ?_;refine Ac0 ?_;refine RunE.next ?_;refine RunC.region ?_;refine Aa0 (Val.add rfl rfl (IntWalk.i64_in _ ⟨by omega,by omega⟩)) rfl rfl rfl ?_;refine vp rfl rfl rfl rfl ?_;refine RunL.nil ?_;exact Ad2 (by omega) (fun j h=>by rcases Nat.lt_or_ge j k with h9 | h9;exact kI j h9;(obtain rfl:j=k:=by omega);exact hno) rfl (Ac8 (t:=32) rfl rfl (Sub.cons (t:=4) rfl (Sub.cons (t:=5) rfl (Sub.cons (t:=6) rfl (Sub.cons (t:=7) rfl (Sub.cons (t:=17) rfl (Sub.cons (t:=18) rfl (Sub.cons (t:=19) rfl (Sub.cons (t:=30) rfl (Sub.cons (t:=31) rfl (Sub.nil _))))))))))) (.cons (.there .here) rfl (.cons (.there .here) rfl (.cons (.there .here) rfl (.cons (.there .here) rfl .nil))))
   intro c1;have c1':=c1;clear c1;try simp only [nH] at c1'
   obtain rfl:i=k:=by omega
   have hin:=Cn8 kI;refine RunC.exit ?_;refine Ac7 ?_;refine Ac7 ?_;refine Ab0 ?_;refine Ac0 ?_;refine RunE.next ?_;refine RunC.region ?_;refine Aa0 (Val.add rfl rfl (IntWalk.i64_in _ ⟨by omega,by omega⟩)) rfl rfl rfl ?_;refine vp rfl rfl rfl rfl ?_;refine RunL.nil ?_;exact Ad2 (by omega) (fun j h=>by rcases Nat.lt_or_ge j i with h9 | h9;exact iI j h9;(obtain rfl:j=i:=by omega);exact hin) rfl (Ac8 (t:=19) rfl rfl (Sub.cons (t:=4) rfl (Sub.cons (t:=5) rfl (Sub.cons (t:=17) rfl (Sub.cons (t:=18) rfl (Sub.nil _)))))) (.cons (.there .here) rfl (.cons (.there .here) rfl (.cons (.there .here) rfl .nil)))
  intro c0;have c0':=c0;clear c0;try simp only [nH] at c0'
  obtain rfl:i=r.reports.l.length:=by omega
  have htw:=BJ0 iI;refine RunC.exit ?_;refine Ac7 ?_;refine Ac7 ?_;refine Ab0 ?_;refine RunE.next ?_;refine csr ?_;refine vp rfl rfl rfl rfl ?_;refine vp rfl rfl rfl rfl ?_;refine Ab4 (Sto.store rfl rfl (.there .here) Ak8 rfl rfl) rfl rfl ?_;refine nnx ?_;refine RunC.ret ?_;exact Au6 An6 Bq6 (.r3 rfl (.tmp rfl) (.tmp rfl) (.one rfl (.tail _ (.head _)) Ak8 rfl)) (by unfold twiceA;rw [if_pos hrx,show r.pl.reports=r.reports.l from rfl,htw])
end Go.Proofs.YtmkdbdbenfbkhaaGreatDoor
namespace Go.Wk
open Go Go.Eng Go.RowKit Go.Bk
abbrev cpmisf (k:Int):Value:=.iface 236 (Value.agg #[Value.int .i64 k])
def openP (p:Ps):Except Int Unit:=if printsX p=true then .ok () else .error 1
theorem Cl9 {r:Ps} {a:Unit} (h:openP r = .ok a):printsX r=true:=by
  unfold openP at h
  split at h
  · assumption
  · cases h
theorem BU8 {r:Ps} {k:Int} (h:openP r = .error k):printsX r=false∧k=1:=by
  unfold openP at h
  split at h
  · cases h
  · rename_i h2
    cases h
    exact ⟨by simpa using h2,rfl⟩
/-! ## Ways in plain words -/
def WayV (n:Nat) (w:List Int):Prop:=w.length=n∧∀ x∈w,-1≤x∧x < n
def stepW (w:List Int) (k:Int):Int:=if k = -1 then -1 else w.getD k.toNat (-1)
def iterW (w:List Int) (c:Int):Nat→Int
  | 0=>c
  | m + 1=>stepW w (iterW w c m)
def roundX (w:List Int):Bool:=(List.range w.length).any fun (c:Nat)=>!decide (iterW w (c:Int) w.length = -1)
theorem BW8 {n:Nat} {w:List Int} (h:WayV n w) {c:Int} (hc:-1≤c∧c < n):∀ m,-1≤iterW w c m∧iterW w c m < n
  | 0=>hc
  | m + 1=>by
    have h1:=BW8 h hc m
    show -1≤stepW w (iterW w c m)∧stepW w (iterW w c m) < n
    unfold stepW
    split
    · omega
    · exact h.2 _ (Av7 (by rw [h.1];omega))
theorem BH8 {p:Nat→Bool} {k:Nat}:(List.range (k + 1)).any p=((List.range k).any p || p k):=by rw [List.range_succ,List.any_append];simp
theorem AM0 {p:Nat→Bool} {n k:Nat} (hk:k < n) (h:p k=true):(List.range n).any p=true:=List.any_eq_true.2 ⟨k,List.mem_range.2 hk,h⟩
end Go.Wk
namespace Go.Proofs.YtmkdbdbenfbkhaaGreatDoor
open Go Go.Eng Go.Bk Go.Wk
theorem AU4 (n l h:Int) (W:World):Calls Tryz.prog 201 #[.int .i64 n,.int .i64 l,.int .i64 h] W (Pure (.bool (within n l h)) W):=by
  refine Aa2 Tryz.func201 rfl rfl ?_;refine st ?_
  refine Ab3 (dj:=10) (dp:=14) 4 rfl (fun g10=>by
    have g10':=g10;try simp only [nH] at g10'
    refine sv ?_;exact zs g10
  ) (fun g10=>by
    have g10':=g10;try simp only [nH] at g10'
    iterate 3 refine Ac9 rfl rfl rfl ?_
    refine sv ?_;exact zs g10
  ) ?_
  refine su ?_;exact Aa4 (.r1 rfl (.tmp rfl)) (by unfold within;simp_all)
theorem AJ1 (b:Bool) (k:Int) (W:World):Calls Tryz.prog 130 #[.bool b,.int .i64 k] W (Try cpmisf (needX b k) W):=by
  refine Aa2 Tryz.func130 rfl rfl ?_;refine st ?_;refine cn rfl ?_ ?_
  ·intro c0'
   refine st ?_;refine lv (Val.build (parts:=[(0,.tmp 6)]) rfl BC7 BK2 rfl) ?_;refine lv (Val.makeInterface rfl BF4) ?_;refine Ap7 rfl ?_;exact Am8 (k:=k) (by simp [needX,show b=false by simpa using c0'])
  intro c0';refine st ?_;exact Ax7 (.r0 rfl) (by simp [needX,show b=true by simpa using c0'])
theorem At2 (s:Sp) (W:World):Calls Tryz.prog 200 #[.agg #[.int .i64 s.lo,.int .i64 s.hi]] W (Pure (.bool (spanX s 16384)) W):=by
  refine Aa2 Tryz.func200 rfl rfl ?_;refine st ?_;refine zn (New.box rfl) (fun b1=>?_)
  refine Ab3 (dj:=6) (dp:=12) 6 rfl (fun g6=>by
    have g6':=g6;try simp only [nH] at g6'
    refine lv (Val.fieldAddr rfl Am5) ?_;refine lv (Aa1 rfl (.head _) Af4 rfl) ?_;refine lv (Val.fieldAddr rfl Aj7) ?_;refine Aa0 (Aa1 rfl (.head _) Af4 rfl) rfl rfl rfl ?_;refine sv ?_;exact zs g6
  ) (fun g6=>by
    have g6':=g6;try simp only [nH] at g6'
    iterate 5 refine Ac9 rfl rfl rfl ?_
    refine sv ?_;exact zs g6
  ) ?_
  refine st ?_
  refine Ab3 (dj:=13) (dp:=17) 4 rfl (fun g13=>by
    have g13':=g13;try simp only [nH] at g13'
    refine lv (Val.fieldAddr rfl Aj7) ?_;refine Aa0 (Aa1 rfl (.head _) Af4 rfl) rfl rfl rfl ?_;refine sv ?_;exact zs g13
  ) (fun g13=>by
    have g13':=g13;try simp only [nH] at g13'
    iterate 3 refine Ac9 rfl rfl rfl ?_
    refine sv ?_;exact zs g13
  ) ?_
  refine su ?_;exact Aa4 (.r1 rfl (.tmp rfl)) (by unfold spanX;rfl)
theorem Bf3 (c:Pt) (W:World):Calls Tryz.prog 199 #[.agg c.cells.toArray] W (Pure (.bool (badPt c)) W):=by
  refine Aa2 Tryz.func199 rfl rfl ?_;refine st ?_;refine zn (New.box rfl) (fun b1=>?_)
  refine zc (zF rfl Be8) (fun w hm=>At2 c.size w) ?_
  refine Ae1 (dj:=7) (dp:=12) 5 rfl (fun g7=>by
    have g7':=g7;try simp only [nH] at g7'
    refine su ?_;refine Ab1 (zF rfl Be8) rfl rfl rfl (fun w hm=>At2 c.wide w) ?_;refine sv ?_;exact zs g7
  ) (fun g7=>by
    have g7':=g7;try simp only [nH] at g7'
    iterate 4 refine Ac9 rfl rfl rfl ?_
    refine sv ?_;exact zs g7
  ) ?_
  refine st ?_
  refine Ae1 (dj:=13) (dp:=18) 5 rfl (fun g13=>by
    have g13':=g13;try simp only [nH] at g13'
    refine su ?_;refine Ab1 (zF rfl CC2) rfl rfl rfl (fun w hm=>AU4 _ _ _ w) ?_;refine sv ?_;exact zs g13
  ) (fun g13=>by
    have g13':=g13;try simp only [nH] at g13'
    iterate 4 refine Ac9 rfl rfl rfl ?_
    refine sv ?_;exact zs g13
  ) ?_
  refine su ?_;exact Aa4 (.r1 rfl (.tmp rfl)) (by unfold badPt;rfl)
-- Cb8
theorem AK6 (p:PsA) (hl:p.cards.l.length≤10000) (W:World) (hP:p.cards.ok Pt.cells 5 W):Calls Tryz.prog 131 #[p.v] W (Pure (.bool (printsX p.pl)) W):=by
  refine Aa2 Tryz.func131 rfl rfl ?_;refine st ?_;refine zn (New.box rfl) (fun b1=>?_)
  refine Ab3 (dj:=8) (dp:=14) 6 rfl (fun g8=>by
    have g8':=g8;try simp only [nH] at g8'
    refine su ?_;refine Ab1 (zF rfl Cd6) rfl rfl rfl (fun w hm=>AJ6 p.cards.l p.cards.q p.cards.b p.cards.o p.cards.c 199 #[] badPt w (hP.mono0 (by decide) hm) (by omega) Cb8 (fun i h w2 h2=>Bf3 _ w2)) ?_;refine sv ?_;exact zs g8
  ) (fun g8=>by
    have g8':=g8;try simp only [nH] at g8'
    iterate 5 refine Ac9 rfl rfl rfl ?_
    refine sv ?_;exact zs g8
  ) ?_
  refine st ?_
  refine Ab3 (dj:=15) (dp:=19) 4 rfl (fun g15=>by
    have g15':=g15;try simp only [nH] at g15'
    refine su ?_;refine Ab1 (zF rfl Be8) rfl rfl rfl (fun w hm=>At2 p.less w) ?_;refine sv ?_;exact zs g15
  ) (fun g15=>by
    have g15':=g15;try simp only [nH] at g15'
    iterate 3 refine Ac9 rfl rfl rfl ?_
    refine sv ?_;exact zs g15
  ) ?_
  refine st ?_
  refine Ab3 (dj:=20) (dp:=24) 4 rfl (fun g20=>by
    have g20':=g20;try simp only [nH] at g20'
    refine su ?_;refine Ab1 (zF rfl Be8) rfl rfl rfl (fun w hm=>At2 p.loss w) ?_;refine sv ?_;exact zs g20
  ) (fun g20=>by
    have g20':=g20;try simp only [nH] at g20'
    iterate 3 refine Ac9 rfl rfl rfl ?_
    refine sv ?_;exact zs g20
  ) ?_
  refine su ?_;exact Aa4 (.r1 rfl (.tmp rfl)) (by unfold printsX;simp only [le5];rfl)
theorem Bf2 (n:Nat) (hn:n≤5) (w:List Int) (hw:WayV n w) (q:Option Addr) (b o c:Nat) (W:World) (hS:Sl W q b o 1 (w.map intC)):Calls Tryz.prog 203 #[.slice q w.length c] W (Pure (.bool (roundX w)) W):=by
  have hwl:=hw.1;refine Aa2 Tryz.func203 rfl rfl ?_;refine su ?_;refine Ad6 (w.length) (fun i q=>(7,.int .i64 (i:Int))::q) (fun _=>_) (fun _=>[]) (fun i=>((List.range i).any fun (c:Nat)=>!decide (iterW w (c:Int) w.length = -1))=false) rfl rfl (zE 7 rfl rfl (zS 0 rfl (zS 5 rfl (zS 6 rfl (Sub.nil _))))) .nil ?_;intro i iN iI;refine st ?_;refine cn rfl ?_ ?_
  ·intro c0'
   have hi:i < w.length:=by omega
   refine su ?_;refine Ad6 (w.length) (fun k q=>(13,.int .i64 (k:Int))::(4,.int .i64 (iterW w (i:Int) k))::q) (fun _=>_) (fun _=>[]) (fun _=>True) trivial rfl (zE 13 rfl rfl (zE 4 rfl rfl (zS 0 rfl (zS 3 rfl (zS 5 rfl (zS 6 rfl (zS 7 rfl (zS 11 rfl (zS 12 rfl (Sub.nil _)))))))))) .nil ?_;intro k kN kI;clear kI;refine st ?_;refine cn rfl ?_ ?_
   ·intro c1'
    have hk:k < w.length:=by omega
    have hit:=BW8 hw (c:=(i:Int)) (by omega) k;refine st ?_;refine cn rfl ?_ ?_
    ·intro c2'
     have hne:iterW w (i:Int) k ≠ -1:=c2';obtain ⟨u,hu⟩:∃ u:Nat,iterW w (i:Int) k=(u:Int):=⟨(iterW w (i:Int) k).toNat,by omega⟩;have hun:u < w.length:=by omega
     obtain ⟨y,hy⟩:∃ y,w[u]=y:=⟨_,rfl⟩;have hstp:iterW w (i:Int) (k + 1)=y:=by (show stepW w (iterW w (i:Int) k)=y;unfold stepW;rw [if_neg hne,hu,Int.toNat_natCast,Ai5 hun,hy])
     rw [hu];refine st ?_;refine lv (Aa6 rfl rfl Ao3 (by omega) (by omega) (Sl.ptrM hS hun)) ?_;refine lv (Ab2 rfl (fun w hm=>Sl.loadM1 hS (by decide) hm (by simp) Af4 hun (v:=.int .i64 y) (by simp [intC,hy]))) ?_;refine lv (Val.add rfl rfl (IntWalk.i64_in _ ⟨by omega,by omega⟩)) ?_;exact Ad2 (by omega) trivial rfl (zE 13 rfl rfl (zE 4 rfl (by rw [hstp]) (zS 0 rfl (zS 3 rfl (zS 5 rfl (zS 6 rfl (zS 7 rfl (zS 11 rfl (zS 12 rfl (Sub.nil _)))))))))) .nil
    intro c2';have hstp:iterW w (i:Int) (k + 1)=iterW w (i:Int) k:=by (have h9:iterW w (i:Int) k = -1:=(by simpa using c2');show stepW w (iterW w (i:Int) k)=_;unfold stepW;rw [if_pos h9,h9])
    refine st ?_;refine lv (Val.add rfl rfl (IntWalk.i64_in _ ⟨by omega,by omega⟩)) ?_;exact Ad2 (by omega) trivial rfl (zE 13 rfl rfl (zE 4 rfl (by rw [hstp]) (zS 0 rfl (zS 3 rfl (zS 5 rfl (zS 6 rfl (zS 7 rfl (zS 11 rfl (zS 12 rfl (Sub.nil _)))))))))) .nil
   intro c1';obtain rfl:k=w.length:=by omega
   refine RunC.exit ?_;refine su ?_;refine Ab0 ?_;refine st ?_;refine cn rfl ?_ ?_
   ·intro c3'
    have hyes:roundX w=true:=AM0 hi (by simpa using c3');refine su ?_;exact Aa4 (.r1 rfl (.tmp rfl)) (by rw [hyes])
   intro c3';have hfin:iterW w (i:Int) w.length = -1:=by simpa using c3'
   refine st ?_;refine lv (Val.add rfl rfl (IntWalk.i64_in _ ⟨by omega,by omega⟩)) ?_;exact Ad2 (by omega) (by rw [BH8,iI];simp;exact hfin) rfl (zE 7 rfl rfl (zS 0 rfl (zS 5 rfl (zS 6 rfl (Sub.nil _))))) .nil
  intro c0';obtain rfl:i=w.length:=by omega
  refine RunC.exit ?_;refine su ?_;refine Ab0 ?_;refine su ?_;exact Aa4 (.r1 rfl (.tmp rfl)) (by unfold roundX;rw [iI])
theorem Br2 (b:Nat) (W:World):Calls Tryz.prog 54 #[.nilIface,.pointer (some ⟨b,0,none⟩)] W (Pure (.tuple #[]) W):=by
  refine Aa2 Tryz.func54 rfl rfl ?_;refine st ?_;refine lv (Aj2 rfl Aw2) ?_;refine RunC.cond rfl ?_ (fun h=>absurd h (by simp))
  intro c0;clear c0;refine su ?_;exact Aa4 (.r0 rfl) (by first | rfl | simp)
theorem Br3 (b:Nat) (k:Int) (x:Value) (W:World) (hb:W.heap[b]? = some (.cells #[x] 42 (0,0))):Calls Tryz.prog 54 #[cpmisf k,.pointer (some ⟨b,0,none⟩)] W (Turns b (.cells #[.int .i64 k] 42 (0,0)) (.tuple #[]) W):=by
  refine Aj0 hb Tryz.func54 rfl rfl ?_;refine st ?_;refine lv (Ah9 rfl Aw2) ?_;refine RunC.cond rfl (fun h=>absurd h (by simp)) ?_;intro c0;clear c0;refine st ?_;refine lv (Al7 rfl BF4) ?_;refine zn (New.alloc BC7) (fun b4=>?_)
  refine Ab4 (Sto.store rfl rfl .here Cr8 rfl rfl) rfl rfl ?_;refine st ?_;refine RunC.cond rfl (fun h=>absurd h (by simp)) ?_;intro c1;clear c1;refine su ?_;refine Ab4 (Al8 rfl rfl .here Ak8 rfl rfl) rfl rfl ?_;refine st ?_;exact Ah7 (chg:=[(b,_)]) (.r0 rfl) (fun _ hm=>⟨rfl,hm.drop⟩)
theorem Bz9 (b:Nat) (w:World):CallsDIn Fence.wide 8 Tryz.prog 53 #[.pointer (some ⟨b,0,none⟩)] .returning w fun e u w'=>(∃ v,e = .returned v)∧u = .returning∧Mem w [] [] w':=by
  refine Ag6 Tryz.func53 rfl fun c₀ cs hu=>?_
  refine wpS_region ?_;simp [wpOpsS,go_sem,recoverD,hu,Tryz.ntmps53,Exit.thenS]
  refine (Br2 b w).mono ?_
  rintro e w' ⟨rfl,hm⟩
  exact ⟨rfl,.returning,by rw [← hu],_,results_none rfl _ _ _,⟨_,rfl⟩,rfl,hm⟩
theorem Bz8 (b:Nat) (k:Int) (x:Value) (w:World) (hb:w.heap[b]? = some (.cells #[x] 42 (0,0))):CallsDIn Fence.wide 8 Tryz.prog 53 #[.pointer (some ⟨b,0,none⟩)] (.panicking [{ v:=cpmisf k,recovered:=false }]) w fun e u w' =>
    (∃ v,e = .returned v)∧u = .panicking [{ v:=cpmisf k,recovered:=true }]∧Mem w [(b,.cells #[.int .i64 k] 42 (0,0))] [] w':=by
  refine Ag6 Tryz.func53 rfl fun c₀ cs hu=>?_
  refine wpS_region ?_;simp [wpOpsS,go_sem,recoverD,hu,Tryz.ntmps53,Exit.thenS]
  refine (Br3 b k x w hb).mono ?_
  rintro e w' ⟨rfl,hm⟩
  exact ⟨rfl,.panicking [{ v:=cpmisf k,recovered:=true }],rfl,_,results_none rfl _ _ _,⟨_,rfl⟩,rfl,hm⟩
theorem AA9:CatchesIn Tryz.prog 53 42 cpmisf:=⟨Bz9,fun b k x w h=>Bz8 b k x w h⟩
theorem AJ0 (c:Pt) (W:World):Calls Tryz.prog 132 #[.agg c.cells.toArray] W (Pure (.agg #[.int .i64 c.size.lo,.int .i64 c.size.hi]) W):=by
  refine Aa2 Tryz.func132 rfl rfl ?_;refine st ?_;refine zn (New.box rfl) (fun b1=>?_)
  refine zn (New.alloc Ag0) (fun b2=>?_)
  refine Ab4 (Sto.store rfl rfl .here Ah0 rfl rfl) rfl rfl ?_;refine su ?_;exact Aa4 (.r1 rfl (.agg rfl (.head _) Ah0 rfl)) (by first | rfl | simp)
theorem AI9 (c:Pt) (W:World):Calls Tryz.prog 133 #[.agg c.cells.toArray] W (Pure (.agg #[.int .i64 c.wide.lo,.int .i64 c.wide.hi]) W):=by
  refine Aa2 Tryz.func133 rfl rfl ?_;refine st ?_;refine zn (New.box rfl) (fun b1=>?_)
  refine zn (New.alloc Ag0) (fun b2=>?_)
  refine Ab4 (Sto.store rfl rfl .here Ah0 rfl rfl) rfl rfl ?_;refine su ?_;exact Aa4 (.r1 rfl (.agg rfl (.head _) Ah0 rfl)) (by first | rfl | simp)
abbrev lsO (p:PsA):Obj:=.cells [Value.func (.func 132) #[] #[],.int .i64 p.less.lo,.int .i64 p.less.hi,.func (.func 133) #[] #[],.int .i64 p.loss.lo,.int .i64 p.loss.hi].toArray 240 (0,0)
abbrev plO (p:PsA) (b2:Nat):Obj:=.cells (p.cells++[Value.slice (some ⟨b2,0,none⟩) 2 2]).toArray 243 (0,0)
theorem Br1 (p:PsA) (hl:p.cards.l.length≤10000) (W:World) (hP:p.cards.ok Pt.cells 5 W):Calls Tryz.prog 55 #[p.v,.bool true] W (TryB cpmisf (openP p.pl) (fun z:Nat×Nat=>.pointer (some ⟨z.1,0,none⟩)) (fun z=>[(z.1,plO p z.2),(z.2,lsO p)]) W):=by
  refine Aa2 Tryz.func55 rfl rfl ?_;refine st ?_;refine zn (New.box rfl) (fun b2=>?_)
  refine zc (zF rfl CE8) (fun w hm=>AK6 p hl w (hP.mono0 (by decide) hm)) ?_;refine Af5 (zF rfl Cd5) rfl rfl rfl (fun w hm=>AJ1 _ _ w) (fun e9 he9=>?_) (fun v9 hv9=>?_)
  ·obtain ⟨er9,rfl⟩:=Ai6 he9
   refine Aa7 ?_;exact Bu0 (by unfold openP;rw [if_neg (by simp [er9])])
  obtain ⟨ok9,rfl⟩:=Am0 hv9;refine st ?_;refine Af5 (zF rfl Cd5) rfl rfl rfl (fun w hm=>AJ1 _ _ w) (fun e11 he11=>?_) (fun v11 hv11=>?_)
  ·obtain ⟨er11,rfl⟩:=Ai6 he11
   refine Aa7 ?_;exact absurd er11 (by simp)
  obtain ⟨ok11,rfl⟩:=Am0 hv11;refine su ?_;refine lu (Val.build (parts:=[(0,.tmp 13),(1,.tmp 15)]) rfl Ba7 AW6 rfl) ?_;refine lv (Val.build (parts:=[(0,.tmp 17),(1,.tmp 19)]) rfl Ba7 AW6 rfl) ?_;refine zn (New.buildSlice (parts:=[(0,.tmp 16),(1,.tmp 20)]) rfl BS6 Ba7 rfl rfl rfl rfl) (fun b21=>?_)
  refine lv (Val.build (parts:=[(0,.tmp 12),(1,.tmp 21)]) rfl Ch3 BK1 rfl) ?_;refine zn (New.box rfl) (fun b23=>?_)
  exact BO0 (a:=()) ((b23,b21):Nat×Nat) (.r1 rfl (.tmp rfl)) (by unfold openP;rw [if_pos ok9]) rfl (.cons .here rfl (.cons .here rfl .nil))
end Go.Proofs.YtmkdbdbenfbkhaaGreatDoor
namespace Go.Wk
open Go Go.Eng Go.RowKit Go.Bk
def zPt:Pt:=⟨⟨0,0⟩,⟨0,0⟩,0⟩
def ofP (nx:Bool) (c:Pt):Sp:=if nx then c.wide else c.size
def byP (nx:Bool) (p:Ps):Sp:=if nx then p.loss else p.less
def joinW (nx:Bool) (p:Ps) (a s:Sp):Sp:=⟨max a.lo (s.lo + (byP nx p).lo),min a.hi (s.hi + (byP nx p).hi)⟩
def foldW (nx:Bool) (p:Ps) (w:List Int) (rec:Nat→Sp×Bool) (c:Nat):Nat→Sp×Bool
  | 0=>(ofP nx (p.cards.getD c zPt),true)
  | k + 1=>if (foldW nx p w rec c k).2=false then foldW nx p w rec c k else if w.getD k (-1) ≠ (c:Int) then foldW nx p w rec c k else if (rec k).2=false then ((foldW nx p w rec c k).1,false) else (joinW nx p (foldW nx p w rec c k).1 (rec k).1,true)
def endW (s:Sp×Bool):Sp×Bool:=(s.1,s.2 && decide (s.1.lo≤s.1.hi))
def whatW (nx:Bool) (p:Ps) (w:List Int):Nat→Nat→Sp×Bool
  | 0=>fun _=>(zS,false)
  | f + 1=>fun c=>endW (foldW nx p w (whatW nx p w f) c w.length)
theorem AQ0 {nx:Bool} {p:Ps} {w:List Int} {rec:Nat→Sp×Bool} {c k:Nat} {s:Sp} (h:foldW nx p w rec c k=(s,false)):∀ m,k≤m→foldW nx p w rec c m=(s,false)
  | 0,hm=>by
    obtain rfl:k=0:=by omega
    exact h
  | m + 1,hm=>by
    by_cases e:k=m + 1
    · rw [← e];exact h
    · have h9:=AQ0 h m (by omega)
      unfold foldW;rw [if_pos (by rw [h9]),h9]
theorem AY1 (w:List Int) (c:Int):∀ m,iterW w c (m + 1)=iterW w (stepW w c) m
  | 0=>rfl
  | m + 1=>by
    show stepW w (iterW w c (m + 1))=stepW w (iterW w (stepW w c) m)
    rw [AY1 w c m]
theorem AY2 {w:List Int} {k c:Nat} (hk:k < w.length) (h:w[k]=(c:Int)) (d:Nat):iterW w (k:Int) (d + 1)=iterW w (c:Int) d:=by
  rw [AY1];unfold stepW;rw [if_neg (by omega),Int.toNat_natCast,Ai5 hk,h]
structure PV (p:Ps):Prop where
  n:p.cards.length≤5
  cards:∀ c∈p.cards,∀ nx,0≤(ofP nx c).lo∧(ofP nx c).lo≤(ofP nx c).hi∧(ofP nx c).hi≤16384
  marks:∀ c∈p.cards,0≤c.marks∧c.marks≤1023
  less:∀ nx,0≤(byP nx p).lo∧(byP nx p).lo≤(byP nx p).hi∧(byP nx p).hi≤16384
theorem Bb6 {s:Sp} (h:spanX s 16384=true):0≤s.lo∧s.lo≤s.hi∧s.hi≤16384:=by
  unfold spanX at h;simp only [Bool.and_eq_true,decide_eq_true_eq] at h;omega
theorem CR6 {p:Ps} (h:printsX p=true):PV p:=by
  unfold printsX at h;simp only [Bool.and_eq_true,decide_eq_true_eq,Bool.not_eq_true',List.any_eq_false] at h;obtain ⟨⟨⟨h1,h2⟩,h3⟩,h4⟩:=h
  have hc:∀ c∈p.cards,(spanX c.size 16384=true∧spanX c.wide 16384=true)∧(0≤c.marks∧c.marks≤1023):=fun c hc=>by
    have h9:=h2 c hc;unfold badPt within at h9;simp only [Bool.or_eq_true,Bool.not_eq_true',Bool.and_eq_false_iff,decide_eq_false_iff_not,not_or,Bool.not_eq_false] at h9;exact ⟨h9.1,by omega⟩
  refine ⟨h1,fun c hm nx=>?_,fun c hm=>(hc c hm).2,fun nx=>?_⟩
  · cases nx
    · exact Bb6 (hc c hm).1.1
    · exact Bb6 (hc c hm).1.2
  · cases nx
    · exact Bb6 h3
    · exact Bb6 h4
theorem Bb2 {p:Ps} (hp:PV p) (nx:Bool) (w:List Int) (hw:w.length=p.cards.length):∀ (f c:Nat),c < w.length→(0≤(whatW nx p w f c).1.lo∧(whatW nx p w f c).1.lo≤16384 * f∧0≤(whatW nx p w f c).1.hi∧(whatW nx p w f c).1.hi≤16384)∧∀ k,k≤w.length→(0≤(foldW nx p w (whatW nx p w f) c k).1.lo∧(foldW nx p w (whatW nx p w f) c k).1.lo≤16384 * (f + 1)∧0≤(foldW nx p w (whatW nx p w f) c k).1.hi∧(foldW nx p w (whatW nx p w f) c k).1.hi≤16384):=by
  have hby:=hp.less nx
  have key:∀ f,(∀ c,c < w.length→0≤(whatW nx p w f c).1.lo∧(whatW nx p w f c).1.lo≤16384 * f∧0≤(whatW nx p w f c).1.hi∧(whatW nx p w f c).1.hi≤16384)→∀ c,c < w.length→∀ k,k≤w.length→(0≤(foldW nx p w (whatW nx p w f) c k).1.lo∧(foldW nx p w (whatW nx p w f) c k).1.lo≤16384 * (f + 1)∧0≤(foldW nx p w (whatW nx p w f) c k).1.hi∧(foldW nx p w (whatW nx p w f) c k).1.hi≤16384):=by
    intro f hf c hc k
    induction k with
    | zero =>
      intro _;have h1:=hp.cards (p.cards.getD c zPt) (Av7 (by omega)) nx
      show 0≤(ofP nx (p.cards.getD c zPt)).lo∧(ofP nx (p.cards.getD c zPt)).lo≤_∧0≤(ofP nx (p.cards.getD c zPt)).hi∧(ofP nx (p.cards.getD c zPt)).hi≤_
      omega
    | succ k ih =>
      intro hk;have h1:=ih (by omega);have h2:=hf k (by omega);unfold foldW
      split
      · exact h1
      · split
        · exact h1
        · split
          · exact h1
          · unfold joinW
            dsimp only;omega
  intro f
  induction f with
  | zero=>exact fun c hc=>⟨by show (0:Int)≤0∧(0:Int)≤16384 * 0∧(0:Int)≤0∧(0:Int)≤16384;decide,key 0 (fun c _=>by show (0:Int)≤0∧(0:Int)≤16384 * 0∧(0:Int)≤0∧(0:Int)≤16384;decide) c hc⟩
  | succ f ih =>
    have h1:∀ c,c < w.length→0≤(whatW nx p w (f + 1) c).1.lo∧(whatW nx p w (f + 1) c).1.lo≤16384 * ((f + 1:Nat):Int)∧0≤(whatW nx p w (f + 1) c).1.hi∧(whatW nx p w (f + 1) c).1.hi≤16384:=fun c hc=>(ih c hc).2 w.length (Nat.le_refl _)
    exact fun c hc=>⟨h1 c hc,key (f + 1) h1 c hc⟩
abbrev y7O (x5 x3 x4 x7:Nat):Obj:=.cells [Value.func (.func 238) #[] #[pV x5,pV x3,pV x4,pV x7]].toArray 335 (0,0)
abbrev y3O (bp:Nat):Obj:=.cells [pV bp].toArray 135 (0,0)
abbrev y4O (q:Option Addr) (n c:Nat):Obj:=.cells [Value.slice q n c].toArray 170 (0,0)
end Go.Wk
namespace Go.Proofs.YtmkdbdbenfbkhaaGreatDoor
open Go Go.Eng Go.Bk Go.Wk
-- AQ9
-- Bz2
-- Bz1
set_option maxHeartbeats 1000000 in
theorem Bz6 (p:PsA) (hp:PV p.pl) (bp b2:Nat) (w:List Int) (hw:WayV p.cards.l.length w) (hr:roundX w=false) (q:Option Addr) (b o c:Nat) (x5 x3 x4 x7:Nat):∀ (f d i:Nat) (W:World),f + d=w.length→i < w.length→iterW w (i:Int) d ≠ -1→p.cards.ok Pt.cells 5 W→Sl W q b o 1 (w.map intC)→W.heap[bp]? = some (plO p b2)→W.heap[x5]? = some (.cells [Value.func (.func 132) #[] #[],.int .i64 p.less.lo,.int .i64 p.less.hi].toArray 240 (0,0))→W.heap[x3]? = some (y3O bp)→W.heap[x4]? = some (y4O q w.length c)→W.heap[x7]? = some (y7O x5 x3 x4 x7) →
    Calls Tryz.prog 238 #[.int .i64 (i:Int),pV x5,pV x3,pV x4,pV x7] W (Pure (.tuple #[.agg #[.int .i64 (whatW false p.pl w f i).1.lo,.int .i64 (whatW false p.pl w f i).1.hi],.bool (whatW false p.pl w f i).2]) W):=by
  intro f
  induction f with
  | zero =>
    intro d i W hfd hi hit
    exact absurd (by
      have h9:=hr;unfold roundX at h9;rw [List.any_eq_false] at h9;have h8:=h9 i (List.mem_range.2 hi);rw [show d=w.length by omega] at hit;simp [hit] at h8) id
  | succ f ih =>
    intro d i W hfd hi hit hP hS hb h5 h3 h4 h7;have hn5:p.cards.l.length≤5:=hp.n;have hwl:w.length=p.cards.l.length:=hw.1;have hic:i < p.cards.l.length:=by omega
    obtain ⟨cd,hcd⟩:∃ x,p.cards.l[i]=x:=⟨_,rfl⟩;have hcg:p.pl.cards.getD i zPt=cd:=(Ai5 hic).trans hcd;have hbd:=fun k hk=>(Bb2 hp false w hwl f i hi).2 k hk
    have hby:0≤p.less.lo∧p.less.lo≤p.less.hi∧p.less.hi≤16384:=hp.less false;have hf5:f≤5:=by omega
    have h0:(foldW false p.pl w (whatW false p.pl w f) i 0).1=cd.size:=by show ofP false (p.pl.cards.getD i zPt)=_;rw [hcg];rfl
    refine Aa2 Tryz.func238 rfl rfl ?_;refine csr ?_;refine Ac3 (New.alloc Ag0) rfl rfl rfl (fun b6=>?_)
    refine vp rfl rfl rfl rfl ?_;refine nnx ?_;refine RunC.seq ?_
    apply Az8 (J:=J1 _ _ _ _ _ _) 12 As5 (.cons .here rfl .nil)
    ·refine va 0 rfl (Val.fieldAddr rfl AQ3) rfl rfl rfl (.cons .here rfl .nil) rfl ?_
     refine va 1 rfl (Aa9 rfl h5 (by simp) BQ2 rfl) rfl rfl rfl (.cons .here rfl .nil) rfl ?_;refine va 2 rfl (Aa9 rfl h3 (by simp) At8 rfl) rfl rfl rfl (.cons .here rfl .nil) rfl ?_;refine va 3 rfl (Aa8 rfl) rfl rfl rfl (.cons .here rfl .nil) rfl ?_;refine va 4 rfl (Val.fieldAddr rfl An8) rfl rfl rfl (.cons .here rfl .nil) rfl ?_;refine va 5 rfl (Val.fieldAddr rfl Aq9) rfl rfl rfl (.cons .here rfl .nil) rfl ?_;refine va 6 rfl (Aa9 rfl hb (by simp) Bb5 rfl) rfl rfl rfl (.cons .here rfl .nil) rfl ?_;refine va 7 rfl (Aa8 rfl) rfl rfl rfl (.cons .here rfl .nil) rfl ?_;refine va 8 rfl (Aa6 rfl rfl AK2 (by omega) (by omega) (Sl.ptrM hP hic)) rfl rfl rfl (.cons .here rfl .nil) rfl ?_;refine va 9 rfl (Ab2 rfl (fun w hm=>Sl.loadX hP (by decide) hm (by simp) BI8 hic hcd)) rfl rfl rfl (.cons .here rfl .nil) rfl ?_;refine Ag5 (rs:=[10,11]) (by kernel_rfl) (by simp) (by kernel_rfl) (fun m hm=>?_)
     simp only [List.mem_cons,List.not_mem_nil,or_false] at hm
     rcases hm with rfl | rfl
     ·refine Ac4 rfl (Ac1 rfl rfl Bz2) rfl rfl rfl (fun w hm=>AJ0 cd w) (Aa5 (.cons .here rfl .nil) (.cons .here rfl .nil) rfl ?_)
      refine RunA.one (i:=11) (by kernel_rfl) (by kernel_rfl) ?_;refine Ae0 rfl (New.alloc Ag0) rfl rfl rfl (fun b8=>(Aa5 (.cons .here rfl (.cons .here rfl .nil)) (.cons (.there .here) rfl .nil) rfl ?_))
      refine Af3 (by kernel_rfl) ?_;refine RunB.one (i:=12) (by kernel_rfl) ?_;refine Ag9 rfl (Sto.store rfl rfl .here Ah0 rfl rfl) rfl rfl (Ab5 ?_)
      refine RunB.done (by kernel_rfl) ?_;exact Az6 b8 (Ad8 _) (Pick.refl _)
     refine Ae0 rfl (New.alloc Ag0) rfl rfl rfl (fun b8=>(Aa5 (.cons .here rfl (.cons .here rfl .nil)) (.cons (.there .here) rfl .nil) rfl ?_))
     refine RunA.one (i:=10) (by kernel_rfl) (by kernel_rfl) ?_;refine Ac4 rfl (Ac1 rfl rfl Bz2) rfl rfl rfl (fun w hm=>AJ0 cd w) (Aa5 (.cons .here rfl (.cons .here rfl .nil)) (.cons .here rfl (.cons .here rfl .nil)) rfl ?_)
     refine Af3 (by kernel_rfl) ?_;refine RunB.one (i:=12) (by kernel_rfl) ?_;refine Ag9 rfl (Sto.store rfl rfl .here Ah0 rfl rfl) rfl rfl (Ab5 ?_)
     refine RunB.done (by kernel_rfl) ?_;exact Az6 b8 (Sub.cons (t:=8) rfl (Sub.cons (t:=23) rfl (Sub.cons (t:=22) rfl (Sub.cons (t:=21) rfl (Sub.cons (t:=20) rfl (Sub.cons (t:=19) rfl (Sub.cons (t:=18) rfl (Sub.cons (t:=17) rfl (Sub.cons (t:=16) rfl (Sub.cons (t:=15) rfl (Sub.cons (t:=14) rfl (Sub.cons (t:=13) rfl (Sub.skip rfl (Sub.skip rfl (Sub.skip rfl (Sub.skip rfl (Sub.skip rfl (Sub.skip rfl (Sub.skip rfl (Sub.skip rfl (Sub.skip rfl (Sub.skip rfl (Sub.skip rfl (Sub.skip rfl (Ad8 _))))))))))))))))))))))))) (.cons .here rfl (.cons .here rfl .nil))
    refine J1.out (fun b8=>?_)
    refine RunE.next ?_;refine RunC.seq ?_;refine csr ?_;refine Aa0 (Aa9 rfl h4 (by simp) AH7 rfl) rfl rfl rfl ?_;refine Aa0 (Ad7 rfl Ao3) rfl rfl rfl ?_;refine vp rfl rfl rfl rfl ?_;refine nnx ?_;refine RunC.block ?_;refine Ad6 (w.length) (fun k q=>(26,.int .i64 (k:Int))::q) (fun _=>_) (fun k=>[(b8,.cells [Value.int .i64 (foldW false p.pl w (whatW false p.pl w f) i k).1.lo,.int .i64 (foldW false p.pl w (whatW false p.pl w f) i k).1.hi].toArray 37 (0,0))]) (fun k=>(foldW false p.pl w (whatW false p.pl w f) i k).2=true) rfl rfl (Ac8 (t:=26) rfl rfl (Sub.cons (t:=0) rfl (Sub.cons (t:=1) rfl (Sub.cons (t:=2) rfl (Sub.cons (t:=3) rfl (Sub.cons (t:=4) rfl (Sub.cons (t:=6) rfl (Sub.cons (t:=8) rfl (Sub.cons (t:=24) rfl (Sub.cons (t:=25) rfl (Sub.nil _))))))))))) (.cons .here (by rw [h0]) (.cons .here rfl .nil)) ?_;intro k kN kI;refine csr ?_;refine vp rfl rfl rfl rfl ?_;refine nnx ?_;refine RunC.seq ?_;refine RunC.cond rfl ?_ ?_
    ·intro c0
     have c0':=c0;clear c0;try simp only [nH] at c0'
     have hk:k < w.length:=by omega
     obtain ⟨y,hy⟩:∃ y,w[k]=y:=⟨_,rfl⟩;have hyd:w.getD k (-1)=y:=(Ai5 hk).trans hy;have hbk:=hbd k (by omega);have hrk:=(Bb2 hp false w hwl f k hk).1;refine RunC.skip ?_;refine RunE.next ?_;refine RunC.seq ?_;refine RunC.block ?_;refine csr ?_;refine vp rfl rfl rfl rfl ?_;refine Aa0 (Aa6 rfl rfl Ao3 (by omega) (by omega) (Sl.ptrM hS hk)) rfl rfl rfl ?_;refine Aa0 (Ab2 rfl (fun w hm=>Sl.loadM1 hS (by decide) hm (by simp) Af4 hk (v:=.int .i64 y) (by simp [intC,hy]))) rfl rfl rfl ?_;refine vp rfl rfl rfl rfl ?_;refine vp rfl rfl rfl rfl ?_;refine nnx ?_;refine RunC.seq ?_;refine csr ?_
     iterate 3 refine vp rfl rfl rfl rfl ?_
     refine nnx ?_;refine RunC.cond rfl ?_ ?_
     ·intro c1
      have c1':=c1;clear c1;try simp only [nH] at c1'
      have hst:foldW false p.pl w (whatW false p.pl w f) i (k + 1)=((foldW false p.pl w (whatW false p.pl w f) i k).1,true):=by (conv=>lhs;unfold foldW);rw [if_neg (by rw [kI];decide),if_pos (by rw [hyd];exact c1')];exact Prod.ext rfl kI
      refine RunC.exit ?_;refine Ac7 ?_;refine Ab0 ?_;refine RunE.next ?_;refine RunC.region ?_;refine Aa0 (Val.add rfl rfl (IntWalk.i64_in _ ⟨by omega,by omega⟩)) rfl rfl rfl ?_;refine vp rfl rfl rfl rfl ?_;refine RunL.nil ?_;exact Ad2 (by omega) (by rw [hst]) rfl (Ac8 (t:=26) rfl rfl (Sub.cons (t:=0) rfl (Sub.cons (t:=1) rfl (Sub.cons (t:=2) rfl (Sub.cons (t:=3) rfl (Sub.cons (t:=4) rfl (Sub.cons (t:=6) rfl (Sub.cons (t:=8) rfl (Sub.cons (t:=24) rfl (Sub.cons (t:=25) rfl (Sub.nil _))))))))))) (.cons .here (by rw [hst] <;> rfl) (.cons .here rfl .nil))
     intro c1;have c1':=c1;clear c1;try simp only [nH] at c1'
     have hyi:y=(i:Int):=c1';have hit2:iterW w (k:Int) (d + 1) ≠ -1:=by rw [AY2 hk (hy.trans hyi)];exact hit
     refine RunC.skip ?_;refine RunE.next ?_;refine csr ?_;refine Aa0 (Aa9 rfl h7 (by simp) AN3 rfl) rfl rfl rfl ?_;refine vp rfl rfl rfl rfl ?_;refine Ab1 (Ac1 rfl rfl AQ9) rfl rfl rfl (fun w hm=>(ih (d + 1) k w (by omega) hk hit2 (hP.mono0 (by decide) hm) (Sl.mono hS (by decide) hm (by simp)) (hm.old_at hb (by simp)) (hm.old_at h5 (by simp)) (hm.old_at h3 (by simp)) (hm.old_at h4 (by simp)) (hm.old_at h7 (by simp)))) ?_
     iterate 3 refine vp rfl rfl rfl rfl ?_
     refine Ac3 (New.alloc Ag0) rfl rfl rfl (fun b11=>?_)
     refine Ab4 (Sto.store rfl rfl .here Ah0 rfl rfl) rfl rfl ?_;refine vp rfl rfl rfl rfl ?_;refine nnx ?_;refine RunC.seq ?_;refine csr ?_;refine vp rfl rfl rfl rfl ?_;refine vp rfl rfl rfl rfl ?_;refine nnx ?_;refine RunC.cond rfl ?_ ?_
     ·intro c2
      have c2':=c2;clear c2;try simp only [nH] at c2'
      have hfin:=AQ0 (nx:=false) (p:=p.pl) (w:=w) (rec:=whatW false p.pl w f) (c:=i) (k:=k + 1) (s:=(foldW false p.pl w (whatW false p.pl w f) i k).1) (by (conv=>lhs;unfold foldW);rw [if_neg (by rw [kI];decide),if_neg (by rw [hyd];exact fun h=>h hyi),if_pos (by simpa using c2')]) w.length (by omega);refine csr ?_;refine Aa0 (Ab6 rfl (.tail _ (.head _)) Ah0 rfl) rfl rfl rfl ?_;refine Ab4 (Sto.store rfl rfl (.there (.there .here)) Ah0 rfl rfl) rfl rfl ?_;refine vp rfl rfl rfl rfl ?_;refine nnx ?_;refine RunC.ret ?_;refine Ab8 ?_;refine Ac5 ?_;refine Ab8 ?_;refine Ab8 ?_;refine Ac5 ?_;refine Ab8 ?_;exact Aa4 (.r2 rfl (.agg rfl (.tail _ (.tail _ (.head _))) Ah0 rfl) (.tmp rfl)) (by show _=Value.tuple #[.agg #[.int .i64 (endW (foldW false p.pl w (whatW false p.pl w f) i w.length)).1.lo,.int .i64 (endW (foldW false p.pl w (whatW false p.pl w f) i w.length)).1.hi],.bool (endW (foldW false p.pl w (whatW false p.pl w f) i w.length)).2];rw [hfin];rfl)
     intro c2;have c2':=c2;clear c2;try simp only [nH] at c2'
     have hst:foldW false p.pl w (whatW false p.pl w f) i (k + 1)=(joinW false p.pl (foldW false p.pl w (whatW false p.pl w f) i k).1 (whatW false p.pl w f k).1,true):=by (conv=>lhs;unfold foldW);rw [if_neg (by rw [kI];decide),if_neg (by rw [hyd];exact fun h=>h hyi),if_neg (by simpa using c2')]
     refine RunC.skip ?_;refine RunE.next ?_;refine RunC.region ?_;refine Aa0 (Val.fieldAddr rfl Am5) rfl rfl rfl ?_;refine Aa0 (Aa1 rfl (.tail _ (.head _)) Af4 rfl) rfl rfl rfl ?_;refine Aa0 (Val.fieldAddr rfl Am5) rfl rfl rfl ?_;refine Aa0 (Aa1 rfl (.head _) Af4 rfl) rfl rfl rfl ?_;refine Aa0 (Val.fieldAddr rfl Aw8) rfl rfl rfl ?_;refine Aa0 (Val.fieldAddr rfl Am5) rfl rfl rfl ?_;refine Aa0 (Aa9 rfl h5 (by simp) Af4 rfl) rfl rfl rfl ?_;refine Aa0 (Val.add rfl rfl (IntWalk.i64_in _ ⟨by omega,by omega⟩)) rfl rfl rfl ?_;refine Aa0 (Val.max rfl rfl) rfl rfl rfl ?_;refine Aa0 (Val.fieldAddr rfl Aj7) rfl rfl rfl ?_;refine Aa0 (Aa1 rfl (.tail _ (.head _)) Af4 rfl) rfl rfl rfl ?_;refine Aa0 (Val.fieldAddr rfl Aj7) rfl rfl rfl ?_;refine Aa0 (Aa1 rfl (.head _) Af4 rfl) rfl rfl rfl ?_;refine Aa0 (Val.fieldAddr rfl Aw8) rfl rfl rfl ?_;refine Aa0 (Val.fieldAddr rfl Aj7) rfl rfl rfl ?_;refine Aa0 (Aa9 rfl h5 (by simp) Af4 rfl) rfl rfl rfl ?_;refine Aa0 (Val.add rfl rfl (IntWalk.i64_in _ ⟨by omega,by omega⟩)) rfl rfl rfl ?_;refine Aa0 (Val.min rfl rfl) rfl rfl rfl ?_;refine Aa0 (Val.build (parts:=[(0,.tmp 51),(1,.tmp 60)]) rfl Ag0 AD6 rfl) rfl rfl rfl ?_;refine Ab4 (Sto.store rfl rfl (.there .here) Ah0 rfl rfl) rfl rfl ?_;refine RunL.nil ?_;refine Ac0 ?_;refine RunE.next ?_;refine RunC.region ?_;refine Aa0 (Val.add rfl rfl (IntWalk.i64_in _ ⟨by omega,by omega⟩)) rfl rfl rfl ?_;refine vp rfl rfl rfl rfl ?_;refine RunL.nil ?_;exact Ad2 (by omega) (by rw [hst]) rfl (Ac8 (t:=26) rfl rfl (Sub.cons (t:=0) rfl (Sub.cons (t:=1) rfl (Sub.cons (t:=2) rfl (Sub.cons (t:=3) rfl (Sub.cons (t:=4) rfl (Sub.cons (t:=6) rfl (Sub.cons (t:=8) rfl (Sub.cons (t:=24) rfl (Sub.cons (t:=25) rfl (Sub.nil _))))))))))) (.cons (.there .here) (by rw [hst] <;> rfl) (.cons (.there .here) rfl .nil))
    intro c0;have c0':=c0;clear c0;try simp only [nH] at c0'
    obtain rfl:k=w.length:=by omega
    refine RunC.exit ?_;refine Ac7 ?_;refine Ac7 ?_;refine Ab0 ?_;refine RunE.next ?_;refine RunC.seq ?_;refine Ae9 7 As5 (.cons .here rfl .nil) ?_;refine va 0 rfl (Ab6 rfl (.head _) Ah0 rfl) rfl rfl rfl (.cons .here rfl .nil) rfl ?_;refine va 1 rfl (Val.fieldAddr rfl Am5) rfl rfl rfl (.cons .here rfl .nil) rfl ?_;refine va 2 rfl (Aa1 rfl (.head _) Af4 rfl) rfl rfl rfl (.cons .here rfl .nil) rfl ?_;refine va 3 rfl (Val.fieldAddr rfl Aj7) rfl rfl rfl (.cons .here rfl .nil) rfl ?_;refine va 4 rfl (Aa1 rfl (.head _) Af4 rfl) rfl rfl rfl (.cons .here rfl .nil) rfl ?_;refine va 5 rfl (Aa8 rfl) rfl rfl rfl (.cons .here rfl .nil) rfl ?_;refine RunA.one (i:=6) (by kernel_rfl) (by kernel_rfl) ?_;refine Ag9 rfl (Sto.store rfl rfl (.there .here) Ah0 rfl rfl) rfl rfl (Aa5 (.cons .here rfl .nil) (.cons .here rfl .nil) rfl ?_)
    refine Af3 (by kernel_rfl) ?_;refine RunB.one (i:=7) (by kernel_rfl) ?_;refine Ac2 rfl (Aa8 rfl) rfl rfl rfl (Ab5 ?_)
    refine RunB.done (by kernel_rfl) ?_;refine RunE.next ?_;refine RunC.ret ?_;exact Aa4 (.r2 rfl (.agg rfl (.tail _ (.head _)) Ah0 rfl) (.tmp rfl)) (by show _=Value.tuple #[.agg #[.int .i64 (endW (foldW false p.pl w (whatW false p.pl w f) i w.length)).1.lo,.int .i64 (endW (foldW false p.pl w (whatW false p.pl w f) i w.length)).1.hi],.bool (endW (foldW false p.pl w (whatW false p.pl w f) i w.length)).2];unfold endW;rw [kI];rfl)
set_option maxHeartbeats 1000000 in
theorem Bz5 (p:PsA) (hp:PV p.pl) (bp b2:Nat) (w:List Int) (hw:WayV p.cards.l.length w) (hr:roundX w=false) (q:Option Addr) (b o c:Nat) (x5 x3 x4 x7:Nat):∀ (f d i:Nat) (W:World),f + d=w.length→i < w.length→iterW w (i:Int) d ≠ -1→p.cards.ok Pt.cells 5 W→Sl W q b o 1 (w.map intC)→W.heap[bp]? = some (plO p b2)→W.heap[x5]? = some (.cells [Value.func (.func 133) #[] #[],.int .i64 p.loss.lo,.int .i64 p.loss.hi].toArray 240 (0,0))→W.heap[x3]? = some (y3O bp)→W.heap[x4]? = some (y4O q w.length c)→W.heap[x7]? = some (y7O x5 x3 x4 x7) →
    Calls Tryz.prog 238 #[.int .i64 (i:Int),pV x5,pV x3,pV x4,pV x7] W (Pure (.tuple #[.agg #[.int .i64 (whatW true p.pl w f i).1.lo,.int .i64 (whatW true p.pl w f i).1.hi],.bool (whatW true p.pl w f i).2]) W):=by
  intro f
  induction f with
  | zero =>
    intro d i W hfd hi hit
    exact absurd (by
      have h9:=hr;unfold roundX at h9;rw [List.any_eq_false] at h9;have h8:=h9 i (List.mem_range.2 hi);rw [show d=w.length by omega] at hit;simp [hit] at h8) id
  | succ f ih =>
    intro d i W hfd hi hit hP hS hb h5 h3 h4 h7;have hn5:p.cards.l.length≤5:=hp.n;have hwl:w.length=p.cards.l.length:=hw.1;have hic:i < p.cards.l.length:=by omega
    obtain ⟨cd,hcd⟩:∃ x,p.cards.l[i]=x:=⟨_,rfl⟩;have hcg:p.pl.cards.getD i zPt=cd:=(Ai5 hic).trans hcd;have hbd:=fun k hk=>(Bb2 hp true w hwl f i hi).2 k hk
    have hby:0≤p.loss.lo∧p.loss.lo≤p.loss.hi∧p.loss.hi≤16384:=hp.less true;have hf5:f≤5:=by omega
    have h0:(foldW true p.pl w (whatW true p.pl w f) i 0).1=cd.wide:=by show ofP true (p.pl.cards.getD i zPt)=_;rw [hcg];rfl
    refine Aa2 Tryz.func238 rfl rfl ?_;refine csr ?_;refine Ac3 (New.alloc Ag0) rfl rfl rfl (fun b6=>?_)
    refine vp rfl rfl rfl rfl ?_;refine nnx ?_;refine RunC.seq ?_
    apply Az8 (J:=J1 _ _ _ _ _ _) 12 As5 (.cons .here rfl .nil)
    ·refine va 0 rfl (Val.fieldAddr rfl AQ3) rfl rfl rfl (.cons .here rfl .nil) rfl ?_
     refine va 1 rfl (Aa9 rfl h5 (by simp) BQ2 rfl) rfl rfl rfl (.cons .here rfl .nil) rfl ?_;refine va 2 rfl (Aa9 rfl h3 (by simp) At8 rfl) rfl rfl rfl (.cons .here rfl .nil) rfl ?_;refine va 3 rfl (Aa8 rfl) rfl rfl rfl (.cons .here rfl .nil) rfl ?_;refine va 4 rfl (Val.fieldAddr rfl An8) rfl rfl rfl (.cons .here rfl .nil) rfl ?_;refine va 5 rfl (Val.fieldAddr rfl Aq9) rfl rfl rfl (.cons .here rfl .nil) rfl ?_;refine va 6 rfl (Aa9 rfl hb (by simp) Bb5 rfl) rfl rfl rfl (.cons .here rfl .nil) rfl ?_;refine va 7 rfl (Aa8 rfl) rfl rfl rfl (.cons .here rfl .nil) rfl ?_;refine va 8 rfl (Aa6 rfl rfl AK2 (by omega) (by omega) (Sl.ptrM hP hic)) rfl rfl rfl (.cons .here rfl .nil) rfl ?_;refine va 9 rfl (Ab2 rfl (fun w hm=>Sl.loadX hP (by decide) hm (by simp) BI8 hic hcd)) rfl rfl rfl (.cons .here rfl .nil) rfl ?_;refine Ag5 (rs:=[10,11]) (by kernel_rfl) (by simp) (by kernel_rfl) (fun m hm=>?_)
     simp only [List.mem_cons,List.not_mem_nil,or_false] at hm
     rcases hm with rfl | rfl
     ·refine Ac4 rfl (Ac1 rfl rfl Bz1) rfl rfl rfl (fun w hm=>AI9 cd w) (Aa5 (.cons .here rfl .nil) (.cons .here rfl .nil) rfl ?_)
      refine RunA.one (i:=11) (by kernel_rfl) (by kernel_rfl) ?_;refine Ae0 rfl (New.alloc Ag0) rfl rfl rfl (fun b8=>(Aa5 (.cons .here rfl (.cons .here rfl .nil)) (.cons (.there .here) rfl .nil) rfl ?_))
      refine Af3 (by kernel_rfl) ?_;refine RunB.one (i:=12) (by kernel_rfl) ?_;refine Ag9 rfl (Sto.store rfl rfl .here Ah0 rfl rfl) rfl rfl (Ab5 ?_)
      refine RunB.done (by kernel_rfl) ?_;exact Az6 b8 (Ad8 _) (Pick.refl _)
     refine Ae0 rfl (New.alloc Ag0) rfl rfl rfl (fun b8=>(Aa5 (.cons .here rfl (.cons .here rfl .nil)) (.cons (.there .here) rfl .nil) rfl ?_))
     refine RunA.one (i:=10) (by kernel_rfl) (by kernel_rfl) ?_;refine Ac4 rfl (Ac1 rfl rfl Bz1) rfl rfl rfl (fun w hm=>AI9 cd w) (Aa5 (.cons .here rfl (.cons .here rfl .nil)) (.cons .here rfl (.cons .here rfl .nil)) rfl ?_)
     refine Af3 (by kernel_rfl) ?_;refine RunB.one (i:=12) (by kernel_rfl) ?_;refine Ag9 rfl (Sto.store rfl rfl .here Ah0 rfl rfl) rfl rfl (Ab5 ?_)
     refine RunB.done (by kernel_rfl) ?_;exact Az6 b8 (Sub.cons (t:=8) rfl (Sub.cons (t:=23) rfl (Sub.cons (t:=22) rfl (Sub.cons (t:=21) rfl (Sub.cons (t:=20) rfl (Sub.cons (t:=19) rfl (Sub.cons (t:=18) rfl (Sub.cons (t:=17) rfl (Sub.cons (t:=16) rfl (Sub.cons (t:=15) rfl (Sub.cons (t:=14) rfl (Sub.cons (t:=13) rfl (Sub.skip rfl (Sub.skip rfl (Sub.skip rfl (Sub.skip rfl (Sub.skip rfl (Sub.skip rfl (Sub.skip rfl (Sub.skip rfl (Sub.skip rfl (Sub.skip rfl (Sub.skip rfl (Sub.skip rfl (Ad8 _))))))))))))))))))))))))) (.cons .here rfl (.cons .here rfl .nil))
    refine J1.out (fun b8=>?_)
    refine RunE.next ?_;refine RunC.seq ?_;refine csr ?_;refine Aa0 (Aa9 rfl h4 (by simp) AH7 rfl) rfl rfl rfl ?_;refine Aa0 (Ad7 rfl Ao3) rfl rfl rfl ?_;refine vp rfl rfl rfl rfl ?_;refine nnx ?_;refine RunC.block ?_;refine Ad6 (w.length) (fun k q=>(26,.int .i64 (k:Int))::q) (fun _=>_) (fun k=>[(b8,.cells [Value.int .i64 (foldW true p.pl w (whatW true p.pl w f) i k).1.lo,.int .i64 (foldW true p.pl w (whatW true p.pl w f) i k).1.hi].toArray 37 (0,0))]) (fun k=>(foldW true p.pl w (whatW true p.pl w f) i k).2=true) rfl rfl (Ac8 (t:=26) rfl rfl (Sub.cons (t:=0) rfl (Sub.cons (t:=1) rfl (Sub.cons (t:=2) rfl (Sub.cons (t:=3) rfl (Sub.cons (t:=4) rfl (Sub.cons (t:=6) rfl (Sub.cons (t:=8) rfl (Sub.cons (t:=24) rfl (Sub.cons (t:=25) rfl (Sub.nil _))))))))))) (.cons .here (by rw [h0]) (.cons .here rfl .nil)) ?_;intro k kN kI;refine csr ?_;refine vp rfl rfl rfl rfl ?_;refine nnx ?_;refine RunC.seq ?_;refine RunC.cond rfl ?_ ?_
    ·intro c0
     have c0':=c0;clear c0;try simp only [nH] at c0'
     have hk:k < w.length:=by omega
     obtain ⟨y,hy⟩:∃ y,w[k]=y:=⟨_,rfl⟩;have hyd:w.getD k (-1)=y:=(Ai5 hk).trans hy;have hbk:=hbd k (by omega);have hrk:=(Bb2 hp true w hwl f k hk).1;refine RunC.skip ?_;refine RunE.next ?_;refine RunC.seq ?_;refine RunC.block ?_;refine csr ?_;refine vp rfl rfl rfl rfl ?_;refine Aa0 (Aa6 rfl rfl Ao3 (by omega) (by omega) (Sl.ptrM hS hk)) rfl rfl rfl ?_;refine Aa0 (Ab2 rfl (fun w hm=>Sl.loadM1 hS (by decide) hm (by simp) Af4 hk (v:=.int .i64 y) (by simp [intC,hy]))) rfl rfl rfl ?_;refine vp rfl rfl rfl rfl ?_;refine vp rfl rfl rfl rfl ?_;refine nnx ?_;refine RunC.seq ?_;refine csr ?_
     iterate 3 refine vp rfl rfl rfl rfl ?_
     refine nnx ?_;refine RunC.cond rfl ?_ ?_
     ·intro c1
      have c1':=c1;clear c1;try simp only [nH] at c1'
      have hst:foldW true p.pl w (whatW true p.pl w f) i (k + 1)=((foldW true p.pl w (whatW true p.pl w f) i k).1,true):=by (conv=>lhs;unfold foldW);rw [if_neg (by rw [kI];decide),if_pos (by rw [hyd];exact c1')];exact Prod.ext rfl kI
      refine RunC.exit ?_;refine Ac7 ?_;refine Ab0 ?_;refine RunE.next ?_;refine RunC.region ?_;refine Aa0 (Val.add rfl rfl (IntWalk.i64_in _ ⟨by omega,by omega⟩)) rfl rfl rfl ?_;refine vp rfl rfl rfl rfl ?_;refine RunL.nil ?_;exact Ad2 (by omega) (by rw [hst]) rfl (Ac8 (t:=26) rfl rfl (Sub.cons (t:=0) rfl (Sub.cons (t:=1) rfl (Sub.cons (t:=2) rfl (Sub.cons (t:=3) rfl (Sub.cons (t:=4) rfl (Sub.cons (t:=6) rfl (Sub.cons (t:=8) rfl (Sub.cons (t:=24) rfl (Sub.cons (t:=25) rfl (Sub.nil _))))))))))) (.cons .here (by rw [hst] <;> rfl) (.cons .here rfl .nil))
     intro c1;have c1':=c1;clear c1;try simp only [nH] at c1'
     have hyi:y=(i:Int):=c1';have hit2:iterW w (k:Int) (d + 1) ≠ -1:=by rw [AY2 hk (hy.trans hyi)];exact hit
     refine RunC.skip ?_;refine RunE.next ?_;refine csr ?_;refine Aa0 (Aa9 rfl h7 (by simp) AN3 rfl) rfl rfl rfl ?_;refine vp rfl rfl rfl rfl ?_;refine Ab1 (Ac1 rfl rfl AQ9) rfl rfl rfl (fun w hm=>(ih (d + 1) k w (by omega) hk hit2 (hP.mono0 (by decide) hm) (Sl.mono hS (by decide) hm (by simp)) (hm.old_at hb (by simp)) (hm.old_at h5 (by simp)) (hm.old_at h3 (by simp)) (hm.old_at h4 (by simp)) (hm.old_at h7 (by simp)))) ?_
     iterate 3 refine vp rfl rfl rfl rfl ?_
     refine Ac3 (New.alloc Ag0) rfl rfl rfl (fun b11=>?_)
     refine Ab4 (Sto.store rfl rfl .here Ah0 rfl rfl) rfl rfl ?_;refine vp rfl rfl rfl rfl ?_;refine nnx ?_;refine RunC.seq ?_;refine csr ?_;refine vp rfl rfl rfl rfl ?_;refine vp rfl rfl rfl rfl ?_;refine nnx ?_;refine RunC.cond rfl ?_ ?_
     ·intro c2
      have c2':=c2;clear c2;try simp only [nH] at c2'
      have hfin:=AQ0 (nx:=true) (p:=p.pl) (w:=w) (rec:=whatW true p.pl w f) (c:=i) (k:=k + 1) (s:=(foldW true p.pl w (whatW true p.pl w f) i k).1) (by (conv=>lhs;unfold foldW);rw [if_neg (by rw [kI];decide),if_neg (by rw [hyd];exact fun h=>h hyi),if_pos (by simpa using c2')]) w.length (by omega);refine csr ?_;refine Aa0 (Ab6 rfl (.tail _ (.head _)) Ah0 rfl) rfl rfl rfl ?_;refine Ab4 (Sto.store rfl rfl (.there (.there .here)) Ah0 rfl rfl) rfl rfl ?_;refine vp rfl rfl rfl rfl ?_;refine nnx ?_;refine RunC.ret ?_;refine Ab8 ?_;refine Ac5 ?_;refine Ab8 ?_;refine Ab8 ?_;refine Ac5 ?_;refine Ab8 ?_;exact Aa4 (.r2 rfl (.agg rfl (.tail _ (.tail _ (.head _))) Ah0 rfl) (.tmp rfl)) (by show _=Value.tuple #[.agg #[.int .i64 (endW (foldW true p.pl w (whatW true p.pl w f) i w.length)).1.lo,.int .i64 (endW (foldW true p.pl w (whatW true p.pl w f) i w.length)).1.hi],.bool (endW (foldW true p.pl w (whatW true p.pl w f) i w.length)).2];rw [hfin];rfl)
     intro c2;have c2':=c2;clear c2;try simp only [nH] at c2'
     have hst:foldW true p.pl w (whatW true p.pl w f) i (k + 1)=(joinW true p.pl (foldW true p.pl w (whatW true p.pl w f) i k).1 (whatW true p.pl w f k).1,true):=by (conv=>lhs;unfold foldW);rw [if_neg (by rw [kI];decide),if_neg (by rw [hyd];exact fun h=>h hyi),if_neg (by simpa using c2')]
     refine RunC.skip ?_;refine RunE.next ?_;refine RunC.region ?_;refine Aa0 (Val.fieldAddr rfl Am5) rfl rfl rfl ?_;refine Aa0 (Aa1 rfl (.tail _ (.head _)) Af4 rfl) rfl rfl rfl ?_;refine Aa0 (Val.fieldAddr rfl Am5) rfl rfl rfl ?_;refine Aa0 (Aa1 rfl (.head _) Af4 rfl) rfl rfl rfl ?_;refine Aa0 (Val.fieldAddr rfl Aw8) rfl rfl rfl ?_;refine Aa0 (Val.fieldAddr rfl Am5) rfl rfl rfl ?_;refine Aa0 (Aa9 rfl h5 (by simp) Af4 rfl) rfl rfl rfl ?_;refine Aa0 (Val.add rfl rfl (IntWalk.i64_in _ ⟨by omega,by omega⟩)) rfl rfl rfl ?_;refine Aa0 (Val.max rfl rfl) rfl rfl rfl ?_;refine Aa0 (Val.fieldAddr rfl Aj7) rfl rfl rfl ?_;refine Aa0 (Aa1 rfl (.tail _ (.head _)) Af4 rfl) rfl rfl rfl ?_;refine Aa0 (Val.fieldAddr rfl Aj7) rfl rfl rfl ?_;refine Aa0 (Aa1 rfl (.head _) Af4 rfl) rfl rfl rfl ?_;refine Aa0 (Val.fieldAddr rfl Aw8) rfl rfl rfl ?_;refine Aa0 (Val.fieldAddr rfl Aj7) rfl rfl rfl ?_;refine Aa0 (Aa9 rfl h5 (by simp) Af4 rfl) rfl rfl rfl ?_;refine Aa0 (Val.add rfl rfl (IntWalk.i64_in _ ⟨by omega,by omega⟩)) rfl rfl rfl ?_;refine Aa0 (Val.min rfl rfl) rfl rfl rfl ?_;refine Aa0 (Val.build (parts:=[(0,.tmp 51),(1,.tmp 60)]) rfl Ag0 AD6 rfl) rfl rfl rfl ?_;refine Ab4 (Sto.store rfl rfl (.there .here) Ah0 rfl rfl) rfl rfl ?_;refine RunL.nil ?_;refine Ac0 ?_;refine RunE.next ?_;refine RunC.region ?_;refine Aa0 (Val.add rfl rfl (IntWalk.i64_in _ ⟨by omega,by omega⟩)) rfl rfl rfl ?_;refine vp rfl rfl rfl rfl ?_;refine RunL.nil ?_;exact Ad2 (by omega) (by rw [hst]) rfl (Ac8 (t:=26) rfl rfl (Sub.cons (t:=0) rfl (Sub.cons (t:=1) rfl (Sub.cons (t:=2) rfl (Sub.cons (t:=3) rfl (Sub.cons (t:=4) rfl (Sub.cons (t:=6) rfl (Sub.cons (t:=8) rfl (Sub.cons (t:=24) rfl (Sub.cons (t:=25) rfl (Sub.nil _))))))))))) (.cons (.there .here) (by rw [hst] <;> rfl) (.cons (.there .here) rfl .nil))
    intro c0;have c0':=c0;clear c0;try simp only [nH] at c0'
    obtain rfl:k=w.length:=by omega
    refine RunC.exit ?_;refine Ac7 ?_;refine Ac7 ?_;refine Ab0 ?_;refine RunE.next ?_;refine RunC.seq ?_;refine Ae9 7 As5 (.cons .here rfl .nil) ?_;refine va 0 rfl (Ab6 rfl (.head _) Ah0 rfl) rfl rfl rfl (.cons .here rfl .nil) rfl ?_;refine va 1 rfl (Val.fieldAddr rfl Am5) rfl rfl rfl (.cons .here rfl .nil) rfl ?_;refine va 2 rfl (Aa1 rfl (.head _) Af4 rfl) rfl rfl rfl (.cons .here rfl .nil) rfl ?_;refine va 3 rfl (Val.fieldAddr rfl Aj7) rfl rfl rfl (.cons .here rfl .nil) rfl ?_;refine va 4 rfl (Aa1 rfl (.head _) Af4 rfl) rfl rfl rfl (.cons .here rfl .nil) rfl ?_;refine va 5 rfl (Aa8 rfl) rfl rfl rfl (.cons .here rfl .nil) rfl ?_;refine RunA.one (i:=6) (by kernel_rfl) (by kernel_rfl) ?_;refine Ag9 rfl (Sto.store rfl rfl (.there .here) Ah0 rfl rfl) rfl rfl (Aa5 (.cons .here rfl .nil) (.cons .here rfl .nil) rfl ?_)
    refine Af3 (by kernel_rfl) ?_;refine RunB.one (i:=7) (by kernel_rfl) ?_;refine Ac2 rfl (Aa8 rfl) rfl rfl rfl (Ab5 ?_)
    refine RunB.done (by kernel_rfl) ?_;refine RunE.next ?_;refine RunC.ret ?_;exact Aa4 (.r2 rfl (.agg rfl (.tail _ (.head _)) Ah0 rfl) (.tmp rfl)) (by show _=Value.tuple #[.agg #[.int .i64 (endW (foldW true p.pl w (whatW true p.pl w f) i w.length)).1.lo,.int .i64 (endW (foldW true p.pl w (whatW true p.pl w f) i w.length)).1.hi],.bool (endW (foldW true p.pl w (whatW true p.pl w f) i w.length)).2];unfold endW;rw [kI];rfl)
end Go.Proofs.YtmkdbdbenfbkhaaGreatDoor
