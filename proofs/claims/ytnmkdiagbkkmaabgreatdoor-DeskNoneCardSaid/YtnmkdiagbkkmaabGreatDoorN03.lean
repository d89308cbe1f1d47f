/- Walks of package mount: depths. -/
import Derived.Test.YtnmkdiagbkkmaabGreatDoorN02
import Derived.Test.YtnmkdiagbkkmaabGreatDoorProg
import Derived.RecoverIn
set_option linter.unusedSimpArgs false
set_option linter.unusedVariables false
set_option linter.unusedSectionVars false
namespace Go.Pw1
open Go Go.Eng
theorem BQ9 {a z z':Int} (ha:0≤a) (hz:0 < z) (h:z≤z'):a / z'≤a / z:=by
  have h1:a / z < a / z + 1:=by omega
  have h2:=(Int.ediv_lt_iff_lt_mul hz).1 h1;have h0:0≤a / z:=Int.ediv_nonneg ha (by omega);have h3:(a / z + 1) * z≤(a / z + 1) * z':=Int.mul_le_mul_of_nonneg_left h (by omega);have h4:=(Int.ediv_lt_iff_lt_mul (show 0 < z' by omega)).2 (Int.lt_of_lt_of_le h2 h3);omega
theorem AX0 {p:Pr} (hp:isPair p=true) (hb:isB (allS p)=true) {z z':Int} (h1:p.near≤z) (h2:z≤z') (h3:z'≤p.far):(standsAt p z').1≤(standsAt p z).1∧(standsAt p z').2≤(standsAt p z).2:=by
  have hpk:=Am1 hp;have n1:=hpk.n1;have w1:=Cv4 hpk;have w2:(allS p).1≤(allS p).2:=by simpa [isB] using hb
  have hst:∀ z,p.near≤z→z≤p.far→standsAt p z=((allS p).1 / z,(allS p).2 / z):=fun z h2 h3=>by
    unfold standsAt;rw [AW9]
    have:within z p.near p.far=true:=by simp [within,h2,h3]
    simp [standsR,openR,hp,hb,this]
  rw [hst z h1 (by omega),hst z' (by omega) h3];exact ⟨BQ9 (by omega) (by omega) h2,BQ9 (by omega) (by omega) h2⟩
end Go.Pw1
namespace Go.Proofs.YtnmkdiagbkkmaabGreatDoor
open Go Go.Eng Go.Pw1

theorem Bt4 (f:Nat→Bool) (n:Nat) (hn:n≤4000000000) (hmono:∀ i j,i≤j→j < n→f i=true→f j=true) (fn:FuncId) (cp:List Value) (he:Enters Tryz.prog fn) (W:World)
    (hf:∀ i,i < n→∀ w,Mem W [] [] w→Calls Tryz.prog fn ([Value.int .i64 (i:Int)]++cp).toArray w (Pure (.bool (f i)) w)) :
    Calls Tryz.prog 191 #[.int .i64 (n:Int),.func (.func fn) #[] cp.toArray] W (Pure (.int .i64 (leastN f n:Int)) W):=by
  refine Aa0 Tryz.func191 rfl rfl ?_;refine st ?_;refine Ah4 (X:=Nat×Nat) (n0:=[]) (n) (fun k x q=>(5,.int .i64 (x.1:Int))::(6,.int .i64 (x.2:Int))::q) (fun _ _=>_) (fun k x=>[]) (fun k x=>[]) (fun k x=>(x.1≤x.2∧x.2≤n∧x.2 - x.1 + k≤n∧(∀ j,j < x.1→f j=false)∧∀ j,x.2≤j→j < n→f j=true)) (0,n) ⟨by simp,by simp,by simp,fun j h=>absurd h (by simp),fun j h h2=>absurd h2 (by simp at h;omega)⟩ rfl (zE 5 rfl rfl (zE 6 rfl rfl (zS 1 rfl (Sub.nil _)))) (Pick.same rfl) ?_;intro k x kN kI;obtain ⟨i1,i2,i3,i4,i5⟩:=kI;refine st ?_;refine cn rfl ?_ ?_
  ·intro c0'
   have hx:x.1 < x.2:=by omega
   have hm1:(x.1 + x.2) >>> 1=(x.1 + x.2) / 2:=Nat.shiftRight_eq_div_pow _ 1;refine st ?_;refine lv (Ah1 (a:=x.1) (b:=x.2) (x.1 + x.2) rfl rfl rfl (Ap3 (by omega))) ?_;refine lv (Ao1 (p:=((x.1 + x.2:Nat):Int)) rfl BD2 Cd0 (u64_in (by omega))) ?_;refine lv (Ak2 (a:=x.1 + x.2) (b:=1) rfl rfl (by decide)) ?_;refine lv (Ao1 (p:=(((x.1 + x.2) >>> 1:Nat):Int)) rfl Cd0 BD2 (Ap3 (by omega))) ?_;refine Ab7 (Ac5 rfl rfl he) rfl rfl rfl (fun w hm=>hf _ (by omega) w hm.drop) ?_;refine st ?_;refine cn rfl ?_ ?_
   ·intro c1'
    refine st ?_;refine lv (Val.add rfl rfl (IntWalk.i64_in _ ⟨by omega,by omega⟩)) ?_;exact Ad5 ((x.1 + x.2) >>> 1 + 1,x.2) (by omega) ⟨by simp only;omega,by simp only;omega,by simp only;omega,fun j hj=>(by (cases hfj:f j;rfl;rw [hmono j _ (by simp only at hj;omega) (by omega) hfj] at c1';cases c1')),fun j h=>i5 j h⟩ rfl (zE 5 rfl rfl (zE 6 rfl rfl (zS 1 rfl (Sub.nil _)))) .nil
   intro c1';refine st ?_;exact Ad5 (x.1,(x.1 + x.2) >>> 1) (by omega) ⟨by simp only;omega,by simp only;omega,by simp only;omega,fun j hj=>i4 j hj,fun j h h2=>hmono _ _ h h2 c1'⟩ rfl (zE 5 rfl rfl (zE 6 rfl rfl (zS 1 rfl (Sub.nil _)))) .nil
  intro c0';have hx:x.1=x.2:=by omega
  refine RunC.exit ?_;refine su ?_;refine Ab1 ?_;refine su ?_;exact Aa4 (.r1 rfl (.tmp rfl)) (by rw [AZ3 (m:=x.1) (by omega) i4 (fun h=>i5 _ (by omega) h)])
theorem BZ3 (s r:Int×Int) (b:Nat) (W:World) (hb:W.heap[b]? = some (.cells (b2c r).toArray 23 (0,0))):Calls Tryz.prog 194 #[b2v s,.pointer (some ⟨b,0,none⟩)] W (Pure (.bool (decide (s.2≤r.2))) W):=by
  refine Aa0 Tryz.func194 rfl rfl ?_;refine st ?_;refine zn (New.box rfl) (fun b2=>?_)
  refine lu (Aa2 rfl hb (by simp) Ag4 rfl) ?_;exact Aa4 (.r1 rfl (.tmp rfl)) (by first | rfl | simp)
theorem BZ2 (s r:Int×Int) (b:Nat) (W:World) (hb:W.heap[b]? = some (.cells (b2c r).toArray 23 (0,0))):Calls Tryz.prog 195 #[b2v s,.pointer (some ⟨b,0,none⟩)] W (Pure (.bool (decide (s.1 < r.1))) W):=by
  refine Aa0 Tryz.func195 rfl rfl ?_;refine st ?_;refine zn (New.box rfl) (fun b2=>?_)
  refine lu (Aa2 rfl hb (by simp) Ag4 rfl) ?_;exact Aa4 (.r1 rfl (.tmp rfl)) (by first | rfl | simp)
theorem BZ1 (g:Int×Int→Bool) (c:Cd) (q:Option Addr) (b o cap:Nat) (i:Nat) (hp:c.p.Ok) (hi:c.p.near + i≤c.p.far) (fn:FuncId) (cp:List Value) (he:Enters Tryz.prog fn) (b1 b2:Nat) (W:World) (hS:Sl W q b o 9 (c.p.things.map Th.cells))
    (h1:W.heap[b1]? = some (.cells (c.cells q cap).toArray 28 (0,0))) (h2:W.heap[b2]? = some (.cells [.func (.func fn) #[] cp.toArray].toArray 274 (0,0)))
    (hf:∀ s w,Mem W [] [] w→Calls Tryz.prog fn ([b2v s]++cp).toArray w (Pure (.bool (g s)) w)) :
    Calls Tryz.prog 192 #[.int .i64 (i:Int),.pointer (some ⟨b1,0,none⟩),.pointer (some ⟨b2,0,none⟩)] W (Pure (.bool (g (standsAt c.p (c.p.near + i)))) W):=by
  have n1:=hp.n1;have n2:=hp.n2;have n3:=hp.n3;have hl:=hp.len;refine Aa0 Tryz.func192 rfl rfl ?_;refine su ?_;refine lu (Ag9 rfl h1 (by simp) Bm1 rfl) ?_;refine lv (Aa2 rfl h1 (by simp) Ag4 rfl) ?_;refine lv (Val.add rfl rfl (IntWalk.i64_in _ ⟨by omega,by omega⟩)) ?_;refine zc (zF rfl CW5) (fun w hm=>BB7 c.p _ q b o cap w (hS.mono (by decide) hm (by simp)) (by omega)) ?_;refine zn (New.alloc Ae2) (fun b5=>?_)
  refine Aa9 (Sto.store rfl rfl .here Ag5 rfl rfl) rfl rfl ?_;refine st ?_;refine lu (Aa2 rfl h2 (by simp) CL0 rfl) ?_;refine Ab7 (Ac5 rfl rfl he) rfl rfl rfl (fun w hm=>hf _ w hm.drop) ?_;refine su ?_;exact Aa4 (.r1 rfl (.tmp rfl)) (by first | rfl | simp)
theorem Bi8 (g:Int×Int→Bool) (c:Cd) (q:Option Addr) (b o cap:Nat) (hp:c.p.Ok) (hmono:∀ i j:Nat,i≤j→c.p.near + j≤c.p.far→g (standsAt c.p (c.p.near + i))=true→g (standsAt c.p (c.p.near + j))=true) (fn:FuncId) (cp:List Value) (he:Enters Tryz.prog fn) (b1:Nat) (W:World) (hS:Sl W q b o 9 (c.p.things.map Th.cells))
    (h1:W.heap[b1]? = some (.cells (c.cells q cap).toArray 28 (0,0))) (hf:∀ s w,Mem W [] [] w→Calls Tryz.prog fn ([b2v s]++cp).toArray w (Pure (.bool (g s)) w)) :
    Calls Tryz.prog 190 #[.func (.func fn) #[] cp.toArray,.pointer (some ⟨b1,0,none⟩)] W (Pure (.int .i64 (c.p.near + leastN (fun i=>g (standsAt c.p (c.p.near + i))) (c.p.far - c.p.near + 1).toNat)) W):=by
  have n1:=hp.n1;have n2:=hp.n2;have n3:=hp.n3;have hl:=hp.len;have hle:=Ap2 (fun i=>g (standsAt c.p (c.p.near + i))) (c.p.far - c.p.near + 1).toNat;obtain ⟨N,hN⟩:∃ N:Nat,c.p.far - c.p.near + 1=N:=⟨(c.p.far - c.p.near + 1).toNat,by omega⟩;have hN2:(c.p.far - c.p.near + 1).toNat=N:=by omega
  rw [hN2] at hle ⊢;refine Aa0 Tryz.func190 rfl rfl ?_;refine st ?_;refine zn (New.box rfl) (fun b2=>?_)
  refine Ac4 13 Aj3 (.cons .here rfl .nil) ?_;refine zw 0 ?_;refine zw 1 ?_;refine zv 2 rfl (Aa2 rfl h1 (by simp) Ag4 rfl) ?_;refine zw 3 ?_;refine zw 4 ?_;refine zv 5 rfl (Aa2 rfl h1 (by simp) Ag4 rfl) ?_;refine zw 6 ?_;refine zw 7 ?_;refine zv 8 rfl (Aa2 rfl h1 (by simp) Ag4 rfl) ?_;refine zv 9 rfl (Ae9 rfl rfl (IntWalk.i64_in _ ⟨by omega,by omega⟩)) ?_;refine zv 10 rfl (Val.add rfl rfl (IntWalk.i64_in _ ⟨by omega,by omega⟩)) ?_;simp only [hN];refine zw 11 ?_;refine zA 12 ?_;refine Ab5 rfl (zF rfl CW7) rfl rfl rfl (fun w hm=>Bt4 (fun i=>g (standsAt c.p (c.p.near + i))) N (by omega) (fun i j h1 h2 h3=>hmono i j h1 (by omega) h3) 192 [_,_] CW6 w (fun i hi w2 hm2=>BZ1 g c q b o cap i hp (by omega) fn cp he _ _ w2 ((hS.mono (by decide) hm (by simp)).mono (by decide) hm2 (by simp)) (hm2.old_at (hm.old_at h1 (by simp)) (by simp)) (hm2.old_at (hm.at (.head _)) (by simp)) (fun s w3 hm3=>hf s w3 ((hm.drop.pass hm2).pass hm3)))) (Aa7 (.cons .here rfl .nil) (.cons .here rfl .nil) rfl ?_)
  refine zt ?_;refine zo 13 rfl (Val.add rfl rfl (IntWalk.i64_in _ ⟨by omega,by omega⟩)) ?_;refine zp 14 ?_;refine zd ?_;refine su ?_;exact Aa4 (.r1 rfl (.tmp rfl)) (by first | rfl | simp)
theorem AG7 (c:Cd) (t:Tr) (q:Option Addr) (b o cap:Nat) (W:World) (hS:Sl W q b o 9 (c.p.things.map Th.cells)) (hl:c.p.things.length≤100000000000) :
    Calls Tryz.prog 130 #[c.v q cap,t.v] W (Pure (.tuple #[b2v (depthsX c t).1,.int .i64 (depthsX c t).2]) W):=by
  by_cases h0:(roomX c t).2=0
  · have h00:checkR c (trR c t)=0:=by
      have h:=h0;rw [Bu2] at h;unfold roomR at h
      split at h
      · assumption
      · exact h
    obtain ⟨hp,hbb,hc,_⟩:=AI5 h00;have hpk:=Am1 hp;have n1:=hpk.n1;have n2:=hpk.n2;have n3:=hpk.n3;obtain ⟨r,hr⟩:∃ r,(roomX c t).1=r:=⟨_,rfl⟩;have hle1:=Ap2 (fun i=>decide ((standsAt c.p (c.p.near + i)).2≤r.2)) (c.p.far - c.p.near + 1).toNat;have hle2:=Ap2 (fun i=>decide ((standsAt c.p (c.p.near + i)).1 < r.1)) (c.p.far - c.p.near + 1).toNat;refine Aa0 Tryz.func130 rfl rfl ?_;refine st ?_;refine zn (New.box rfl) (fun b2=>?_)
    refine zn (New.box rfl) (fun b3=>?_)
    refine zn (New.alloc Ae2) (fun b4=>?_)
    refine zc (zF rfl Cr1) (fun w hm=>Bk9 c t q b o cap w (hS.mono (by decide) hm (by simp)) hl) ?_;refine zn (New.alloc Ae2) (fun b6=>?_)
    refine Aa9 (Sto.store rfl rfl .here Ag5 rfl rfl) rfl rfl ?_;refine st ?_;refine RunC.cond rfl (fun h=>absurd h (by simp [h0])) ?_;intro c0;clear c0;refine st ?_;refine Ab7 (Ac5 rfl rfl Cr0) rfl rfl rfl (fun w hm=>Bi8 (fun s=>decide (s.2≤r.2)) c q b o cap hpk (fun i j g1 g2 g3=>by (have g4:=AX0 hp hbb (z:=c.p.near + i) (z':=c.p.near + j) (by omega) (by omega) g2;simp only [decide_eq_true_eq] at g3 ⊢;omega)) 194 [_] CW4 _ w (hS.mono (by decide) hm (by simp)) (hm.at (.tail _ (.tail _ (.tail _ (.head _))))) (fun s w2 hm2=>BZ3 s r _ w2 (by rw [← hr];exact hm2.old_at (hm.at (.head _)) (by simp)))) ?_;refine st ?_;refine Ab7 (Ac5 rfl rfl Cr0) rfl rfl rfl (fun w hm=>Bi8 (fun s=>decide (s.1 < r.1)) c q b o cap hpk (fun i j g1 g2 g3=>by (have g4:=AX0 hp hbb (z:=c.p.near + i) (z':=c.p.near + j) (by omega) (by omega) g2;simp only [decide_eq_true_eq] at g3 ⊢;omega)) 195 [_] CW3 _ w (hS.mono (by decide) hm (by simp)) (hm.at (.tail _ (.tail _ (.tail _ (.head _))))) (fun s w2 hm2=>BZ2 s r _ w2 (by rw [← hr];exact hm2.old_at (hm.at (.head _)) (by simp)))) ?_;refine lv (Ae9 rfl rfl (IntWalk.i64_in _ ⟨by omega,by omega⟩)) ?_;refine lv (Val.build (parts:=[(0,.tmp 23),(1,.tmp 27)]) rfl Aj0 Ao5 rfl) ?_;refine zn (New.alloc Aj0) (fun b9=>?_)
    refine Aa9 (Sto.store rfl rfl .here AA3 rfl rfl) rfl rfl ?_;refine su ?_;refine zc (zF rfl Cq9) (fun w hm=>AR1 (_,_) w) ?_;refine cn rfl ?_ ?_
    ·intro c1'
     have c1r:(depthsOf c (roomX c t).1).2 < (depthsOf c (roomX c t).1).1:=by rw [hr];exact c1'
     refine st ?_;refine lv (Val.build (parts:=[]) rfl Ae2 Al9 rfl) ?_;refine Aa9 (Sto.store rfl rfl (.there (.there .here)) Ag5 rfl rfl) rfl rfl ?_;refine su ?_;exact Aa4 (.r2 rfl (.agg rfl (.tail _ (.tail _ (.head _))) Ag5 rfl) (.tmp rfl)) (by rw [depthsX,if_pos h0,if_pos c1r];rfl)
    intro c1';have c1r:¬ (depthsOf c (roomX c t).1).2 < (depthsOf c (roomX c t).1).1:=by rw [hr];exact Int.not_lt.2 c1'
    refine su ?_;refine zc (zF rfl Cq8) (fun w hm=>AY4 (_,_) w) ?_;refine Aa9 (Sto.store rfl rfl (.there (.there .here)) Ag5 rfl rfl) rfl rfl ?_;refine su ?_;exact Aa4 (.r2 rfl (.agg rfl (.tail _ (.tail _ (.head _))) Ag5 rfl) (.tmp rfl)) (by rw [depthsX,if_pos h0,if_neg c1r,hr];rfl)
  · refine Aa0 Tryz.func130 rfl rfl ?_
    refine st ?_;refine zn (New.box rfl) (fun b2=>?_)
    refine zn (New.box rfl) (fun b3=>?_)
    refine zn (New.alloc Ae2) (fun b4=>?_)
    refine zc (zF rfl Cr1) (fun w hm=>Bk9 c t q b o cap w (hS.mono (by decide) hm (by simp)) hl) ?_;refine zn (New.alloc Ae2) (fun b6=>?_)
    refine Aa9 (Sto.store rfl rfl .here Ag5 rfl rfl) rfl rfl ?_;refine st ?_;refine RunC.cond rfl ?_ (fun h=>absurd h (by simp [h0]))
    intro c0;clear c0;refine st ?_;refine lv (Val.build (parts:=[]) rfl Ae2 Al9 rfl) ?_;refine Aa9 (Sto.store rfl rfl (.there .here) Ag5 rfl rfl) rfl rfl ?_;refine su ?_;exact Aa4 (.r2 rfl (.agg rfl (.tail _ (.head _)) Ag5 rfl) (.tmp rfl)) (by simp [depthsX,h0,b2v])
end Go.Proofs.YtnmkdiagbkkmaabGreatDoor
namespace Go.Pw1
open Go Go.Eng
def cmpL:List Int→List Int→Int
  | x::l,y::m=>if x < y then -1 else if y < x then 1 else cmpL l m
  | [],_::_=>-1
  | _::_,[]=>1
  | [],[]=>0
theorem BR2:∀ {l m:List Int} {k:Nat} (hk:k < l.length) (hm:k < m.length),(∀ j (h:j < k) (h1:j < l.length) (h2:j < m.length),l[j]=m[j])→cmpL l m=if l[k] < m[k] then -1 else if m[k] < l[k] then 1 else cmpL (l.drop (k + 1)) (m.drop (k + 1))
  | x::l,y::m,0,_,_,_=>by simp [cmpL]
  | x::l,y::m,k + 1,hk,hm,h=>by
    have h0:=h 0 (by omega) (by simp) (by simp);simp only [List.getElem_cons_zero] at h0;subst h0;have h1:=BR2 (l:=l) (m:=m) (k:=k) (by simpa using hk) (by simpa using hm) (fun j hj h1 h2=>h (j + 1) (by omega) (by simp;omega) (by simp;omega));simp only [cmpL,Int.lt_irrefl,if_false,List.getElem_cons_succ,List.drop_succ_cons];exact h1
theorem Bz9:∀ {l m:List Int},l.length=m.length→(∀ j (h1:j < l.length) (h2:j < m.length),l[j]=m[j])→cmpL l m=0
  | [],[],_,_=>rfl
  | x::l,y::m,hl,h=>by
    have h0:=h 0 (by simp) (by simp);simp only [List.getElem_cons_zero] at h0;subst h0;simp only [cmpL,Int.lt_irrefl,if_false];exact Bz9 (by simpa using hl) (fun j h1 h2=>h (j + 1) (by simp;omega) (by simp;omega))
theorem BR1 (a b:Tr):(cmpL [a.ll,a.lr,a.rl,a.rr] [b.ll,b.lr,b.rl,b.rr] < 0) ↔ lexT a b:=by
  simp only [cmpL,lexT]
  by_cases h1:a.ll < b.ll
  · simp [h1]
  · by_cases h2:b.ll < a.ll
    · simp [h1,h2];omega
    · by_cases h3:a.lr < b.lr
      · simp [h1,h2,h3];omega
      · by_cases h4:b.lr < a.lr
        · simp [h1,h2,h3,h4];omega
        · by_cases h5:a.rl < b.rl
          · simp [h1,h2,h3,h4,h5];omega
          · by_cases h6:b.rl < a.rl
            · simp [h1,h2,h3,h4,h5,h6];omega
            · by_cases h7:a.rr < b.rr
              · simp [h1,h2,h3,h4,h5,h6,h7];omega
              · by_cases h8:b.rr < a.rr
                · simp [h1,h2,h3,h4,h5,h6,h7,h8]
                · simp [h1,h2,h3,h4,h5,h6,h7,h8]
/-! ## The search -/
abbrev TrS (c:Cd):={ t:Tr // trIs c t=true }
def subL (c:Cd) (l:List Tr):List (TrS c):=l.filterMap fun t=>if h:trIs c t=true then some ⟨t,h⟩ else none
theorem AB9 (c:Cd) (l m:List Tr):subL c (l++m)=subL c l++subL c m:=by simp [subL,List.filterMap_append]
theorem Bm3 {c:Cd} {t:Tr} (h:trIs c t=true):subL c [t]=[⟨t,h⟩]:=by simp [subL,h]
theorem Bm2 {c:Cd}:∀ {l:List Tr},(∀ t∈l,trIs c t=true)→(subL c l).map (·.1)=l
  | [],_=>rfl
  | t::l,h=>by
    have h1:=h t (by simp);rw [show t::l=[t]++l from rfl,AB9,Bm3 h1,List.map_append,Bm2 (fun u hu=>h u (List.mem_cons_of_mem _ hu))];rfl
def bstep (c:Cd) (o:Option Tr) (x:Tr):Option Tr:=match o with
  | none=>if fitT c x then some x else none
  | some u=>if befT u x then some u else if fitT c x then some x else some u
def bfold (c:Cd) (l:List Tr):Option Tr:=l.foldl (bstep c) none
theorem BZ7 (c:Cd) (l:List Tr) (x:Tr):bfold c (l++[x])=bstep c (bfold c l) x:=by simp [bfold,List.foldl_append]
theorem Bj5 {c:Cd} {u:Tr}:∀ {l:List Tr},(∀ x∈l,befT u x)→l.foldl (bstep c) (some u)=some u
  | [],_=>rfl
  | x::l,h=>by
    simp only [List.foldl_cons,bstep];rw [if_pos (h x (by simp))];exact Bj5 fun y hy=>h y (List.mem_cons_of_mem _ hy)
theorem AQ3 {c:Cd}:∀ {l:List Tr},l.Pairwise befT→bfold c l=l.find? (fitT c)
  | [],_=>rfl
  | x::l,h=>by
    cases h with
    | cons hx hl =>
      unfold bfold;simp only [List.foldl_cons,bstep,List.find?_cons]
      cases hf:fitT c x with
      | true=>simp only [if_true];exact Bj5 hx
      | false=>simp only [Bool.false_eq_true,if_false];exact AQ3 hl
def bO (c:Cd) (pre:List (TrS c)):Option Tr:=bfold c (pre.map (·.1))
theorem BK6 (c:Cd) (pre:List (TrS c)) (x:TrS c):bO c (pre++[x])=bstep c (bO c pre) x.1:=by simp [bO,BZ7]
theorem Dk6 {c:Cd} (hc:c.Ok):bO c (subL c (trimsM c))=bestM c:=by
  unfold bO;rw [Bm2 (fun t ht=>(AL5 hc).1 ht)];exact AQ3 (BN3 c)
theorem Da0 {c:Cd} (hc:c.Ok) {pre rest:List (TrS c)} (h:pre++rest=subL c (trimsM c)) {u:Tr} (hu:bO c pre=some u):bestM c=some u:=by
  have h1:pre.map (·.1)++rest.map (·.1)=trimsM c:=by rw [← List.map_append,h,Bm2 (fun t ht=>(AL5 hc).1 ht)]
  have h2:=BN3 c;rw [← h1] at h2;have h3:(pre.map (·.1)).find? (fitT c)=some u:=by rw [← AQ3 (List.pairwise_append.1 h2).1];exact hu
  unfold bestM;rw [← h1,List.find?_append,h3];rfl
def tz:Tr:=⟨0,0,0,0⟩
theorem AD0 (lo:Int) {k:Nat}:∀ {N:Nat},k < N→∃ r,fromZ lo N=fromZ lo k++(lo + k)::r
  | N + 1,h=>by
    rcases Nat.lt_or_ge k N with h1 | h1
    · obtain ⟨r,hr⟩:=AD0 lo h1
      exact ⟨r++[lo + N],by simp [fromZ,hr]⟩
    · obtain rfl:k=N:=by omega
      exact ⟨[],rfl⟩
theorem BD5 {c:Cd} {k m n:Nat} (hk:k < (2 * c.cuts + 1).toNat) (hm:m < oneN c k) (hn:n < oneN c k) :
    ∃ rest,(trO c (fromZ 0 k)++trA c k (fromZ (oneLo c k) m)++trD k (oneLo c k + m) (fromZ (oneLo c k) n))++([⟨oneLo c k + m,k - (oneLo c k + m),oneLo c k + n,k - (oneLo c k + n)⟩]++rest)=trimsM c:=by
  obtain ⟨r1,h1⟩:=AD0 0 hk;obtain ⟨r2,h2⟩:=AD0 (oneLo c k) hm;obtain ⟨r3,h3⟩:=AD0 (oneLo c k) hn;have e3:trD k (oneLo c k + m) (fromZ (oneLo c k) (oneN c k))=trD k (oneLo c k + m) (fromZ (oneLo c k) n)++([⟨oneLo c k + m,k - (oneLo c k + m),oneLo c k + n,k - (oneLo c k + n)⟩]++trD k (oneLo c k + m) r3):=by rw [h3];simp [trD]
  have e2:trA c k (fromZ (oneLo c k) (oneN c k))=trA c k (fromZ (oneLo c k) m)++(trD k (oneLo c k + m) (fromZ (oneLo c k) (oneN c k))++trA c k r2):=by rw [h2];simp [trA];rw [← h2]
  have e1:trimsM c=trO c (fromZ 0 k)++(trA c k (fromZ (oneLo c k) (oneN c k))++trO c r1):=by unfold trimsM;rw [h1];simp [trO]
  rw [e1,e2,e3];exact ⟨trD k (oneLo c k + m) r3++trA c k r2++trO c r1,by simp [List.append_assoc]⟩
theorem CR9 {c:Cd} (hc:c.Ok) (one:Int):oneN c one≤41:=by
  have:=hc.c1
  have:=hc.c2
  unfold oneN oneHi oneLo;omega
theorem CP8 (one a:Int) (l:List Int):(trD one a l).length=l.length:=by simp [trD]
theorem Ce7 (c:Cd) (one:Int):∀ l:List Int,(trA c one l).length=l.length * oneN c one
  | []=>by simp [trA]
  | a::l=>by
    have h:=Ce7 c one l;have e:trA c one (a::l)=trD one a (fromZ (oneLo c one) (oneN c one))++trA c one l:=by simp [trA]
    rw [e,List.length_append,h,CP8,AN1,List.length_cons,Nat.add_mul];omega
theorem Ce6 {c:Cd} (hc:c.Ok):∀ l:List Int,(trO c l).length≤l.length * 1681
  | []=>by simp [trO]
  | a::l=>by
    have h:=Ce6 hc l;have e:trO c (a::l)=trA c a (fromZ (oneLo c a) (oneN c a))++trO c l:=by simp [trO]
    have h2:=CR9 hc a;have h3:oneN c a * oneN c a≤41 * 41:=Nat.mul_le_mul h2 h2;rw [e,List.length_append,Ce7,AN1,List.length_cons,Nat.add_mul];omega
theorem CA5 (c:Cd) (l:List Tr):(subL c l).length≤l.length:=List.length_filterMap_le _ _
theorem Ce0 {c:Cd} (hc:c.Ok):(trimsM c).length≤140000:=by
  have h:=Ce6 hc (fromZ 0 (2 * c.cuts + 1).toNat);rw [AN1] at h
  have:=hc.c2
  have h2:(2 * c.cuts + 1).toNat≤81:=by omega
  have h3:=Nat.mul_le_mul_right 1681 h2;unfold trimsM;omega
end Go.Pw1
namespace Go.Proofs.YtnmkdiagbkkmaabGreatDoor
open Go Go.Eng Go.Pw1

theorem AZ5 (x:Int) (W:World):Calls Tryz.prog 247 #[.int .i64 x] W (Pure (.bool false) W):=by
  refine Aa0 Tryz.func247 rfl rfl ?_;refine su ?_;exact Aa4 (.r1 rfl (.tmp rfl)) (by simp)
theorem Bq1 (x y:Int) (W:World):Calls Tryz.prog 246 #[.int .i64 x,.int .i64 y] W (Pure (.int .i64 (if x < y then -1 else if y < x then 1 else 0)) W):=by
  refine Aa0 Tryz.func246 rfl rfl ?_;refine st ?_;refine zc (zF rfl Cq0) (fun w hm=>AZ5 _ w) ?_;refine zc (zF rfl Cq0) (fun w hm=>AZ5 _ w) ?_;refine RunC.cond rfl (fun h=>absurd h (by decide)) ?_;intro c0;clear c0;refine st ?_;refine RunC.cond rfl (fun h=>absurd h (by decide)) ?_;intro c2;clear c2;refine st ?_;refine cn rfl ?_ ?_
  ·intro c3'
   refine su ?_;exact Aa4 (.r1 rfl (.tmp rfl)) (by first | (simp [*];done) | (rw [if_neg (by omega),if_pos (by omega)]) | (rw [if_neg (by omega),if_neg (by omega)]))
  intro c3';refine st ?_;refine cn rfl ?_ ?_
  ·intro c4'
   refine su ?_;exact Aa4 (.r1 rfl (.tmp rfl)) (by first | (simp [*];done) | (rw [if_neg (by omega),if_pos (by omega)]) | (rw [if_neg (by omega),if_neg (by omega)]))
  intro c4';refine su ?_;exact Aa4 (.r1 rfl (.tmp rfl)) (by first | (simp [*];done) | (rw [if_neg (by omega),if_pos (by omega)]) | (rw [if_neg (by omega),if_neg (by omega)]))
theorem BZ5 (l m:List Int) (hlm:l.length=m.length) (hl:l.length≤1000) (q:Option Addr) (b o cap:Nat) (q2:Option Addr) (b2 o2 cap2:Nat) (W:World) (hS:Sl W q b o 1 (l.map fun n=>[.int .i64 n])) (hS2:Sl W q2 b2 o2 1 (m.map fun n=>[.int .i64 n])) :
    Calls Tryz.prog 241 #[.slice q l.length cap,.slice q2 m.length cap2] W (Pure (.int .i64 (cmpL l m)) W):=by
  refine Aa0 Tryz.func241 rfl rfl ?_;refine su ?_;refine Ae5 (l.length) (fun k q=>(11,.int .i64 (k:Int))::q) (fun _=>_) (fun _=>[]) (fun k=>∀ j (h:j < k) (h1:j < l.length) (h2:j < m.length),l[j]=m[j]) (fun j h=>absurd h (by omega)) rfl (zE 11 rfl rfl (zS 0 rfl (zS 1 rfl (zS 9 rfl (zS 10 rfl (Sub.nil _)))))) .nil ?_;intro k kN kI;refine st ?_;refine cn rfl ?_ ?_
  ·intro c0'
   have hk:k < l.length:=by omega
   have hk2:k < m.length:=by omega
   refine st ?_;refine lv (Aa8 rfl rfl Ah5 (by omega) (by omega) (hS.ptrM hk)) ?_;refine lu (Ab0 rfl (fun w hm=>hS.loadM1 (by decide) hm (by simp) Ag4 hk (v:=.int .i64 l[k]) rfl)) ?_;refine RunC.cond rfl (fun h=>absurd h (by simp;omega)) ?_;intro c1;clear c1;refine st ?_;refine lv (Aa8 rfl rfl Ah5 (by omega) (by omega) (hS2.ptrM hk2)) ?_;refine lv (Ab0 rfl (fun w hm=>hS2.loadM1 (by decide) hm (by simp) Ag4 hk2 (v:=.int .i64 m[k]) rfl)) ?_;refine zc (zF rfl CU2) (fun w hm=>Bq1 _ _ w) ?_;refine cn rfl ?_ ?_
   ·intro c2'
    have hne:l[k] ≠ m[k]:=fun e=>by (rw [e] at c2';simp at c2')
    refine su ?_;exact Aa4 (.r1 rfl (.tmp rfl)) (by rw [BR2 hk hk2 kI];rcases Int.lt_or_gt_of_ne hne with h | h;simp [h];have h5:¬ l[k] < m[k]:=(by omega);simp [h,h5])
   intro c2';have heq:l[k]=m[k]:=by (rcases Int.lt_trichotomy l[k] m[k] with h | h | h;simp [h] at c2';exact h;have h5:¬ l[k] < m[k]:=(by omega);simp [h,h5] at c2')
   refine st ?_;refine lv (Val.add rfl rfl (IntWalk.i64_in _ ⟨by omega,by omega⟩)) ?_;exact Ad0 (by omega) (fun j h h1 h2=>by (rcases Nat.lt_or_ge j k with h4 | h4;exact kI j h4 h1 h2;have e:j=k:=(by omega);subst e;exact heq)) rfl (zE 11 rfl rfl (zS 0 rfl (zS 1 rfl (zS 9 rfl (zS 10 rfl (Sub.nil _)))))) .nil
  intro c0';obtain rfl:k=l.length:=by omega
  refine RunC.exit ?_;refine su ?_;refine Ab1 ?_;refine su ?_;refine RunC.cond rfl (fun h=>absurd h (by simp;omega)) ?_;intro c3;clear c3;refine su ?_;exact Aa4 (.r1 rfl (.tmp rfl)) (by rw [Bz9 hlm (fun j h1 h2=>kI j h1 h1 h2)])
theorem Sl.row1At {w:World} {b:Nat} {T:TypeId} {pre cs:List Value} {fr:Nat×Nat} (h:w.heap[b]? = some (.cells (pre++cs).toArray T fr)):Sl w (some ⟨b,pre.length,none⟩) b pre.length 1 (cs.map fun v=>[v]) :=
  ⟨fun _=>rfl,by simp,fun i hi j hj=>by
    obtain rfl:j=0:=by omega
    have hi':i < cs.length:=by simpa using hi
    rw [Ae1 h,show pre.length + i * 1 + 0=pre.length + i by omega,List.getElem?_append_right (by omega)];simp [hi']⟩
theorem BR3 {a b:Tr} (h:sumT a < sumT b):decide (befT a b)=true:=decide_eq_true (.inl h)
theorem BR5 {a b:Tr} (h:sumT a=sumT b):decide (befT a b)=decide (cmpL [a.ll,a.lr,a.rl,a.rr] [b.ll,b.lr,b.rl,b.rr] < 0):=by
  refine decide_eq_decide.2 ?_;rw [BR1];exact ⟨fun g=>Or.elim (show sumT a < sumT b∨(sumT a=sumT b∧lexT a b) from g) (fun g=>by omega) (·.2),fun g=>Or.inr ⟨h,g⟩⟩
theorem BR4 {a b:Tr} (h:sumT b≤sumT a) (h2:¬ sumT a=sumT b):decide (befT a b)=false:=decide_eq_false (fun g=>g.elim (fun g=>by omega) (fun g=>h2 g.1))
theorem AV7 {a b:Tr} (h:sumT a=sumT b∧(a.ll=b.ll∧a.lr=b.lr∧a.rl=b.rl∧a.rr=b.rr∧True)∧True):decide (befT a b)=false:=decide_eq_false (fun g=>by unfold befT lexT at g;omega)
def ordV (a:Tr):Value:=.agg #[.int .i64 (sumT a),.int .i64 a.ll,.int .i64 a.lr,.int .i64 a.rl,.int .i64 a.rr]
theorem Bn5 (a b:Tr) (W:World):Calls Tryz.prog 227 #[ordV a,ordV b] W (Pure (.bool (decide (befT a b))) W):=by
  have hlex:=BR1 a b;refine Aa0 Tryz.func227 rfl rfl ?_;refine st ?_;refine zn (New.box rfl) (fun b2=>?_)
  refine zn (New.box rfl) (fun b3=>?_)
  refine Ao6 (X:=Unit) 20 (n0:=[(b3,_),(b2,_)]) (fun x q=>(4,.bool (decide (befT a b)))::q) (fun x=>[]) (fun x=>[]) (fun x=>[]) (fun x=>True) Aj3 (.cons .here rfl (.cons .here rfl .nil)) (zS 2 rfl (zS 3 rfl (Sub.nil _))) (.cons .here rfl (.cons .here rfl .nil)) ?_ ?_
  ·refine zw 0 ?_
   refine zw 1 ?_;refine zv 2 rfl (BB3 rfl rfl CT3 (De8 _ _ _ _ _ _ _ _ _ _ )) ?_;refine zw 3 ?_;refine Ap5 (dj:=8) rfl ?_ ?_
   ·intro g8
    have g8':=g8;clear g8;try simp only [nH] at g8'
    refine zw 4 ?_;refine zw 5 ?_;refine zw 6 ?_;refine zw 7 ?_;refine zw 8 ?_;refine zw 9 ?_;refine Ap5 (dj:=14) rfl ?_ ?_
    ·intro g14
     have g14':=g14;clear g14;try simp only [nH] at g14'
     refine zN 10 ?_;refine zN 11 ?_;refine zN 12 ?_;refine zN 13 ?_;refine zN 14 ?_;refine zN 15 ?_;refine zN 16 ?_;refine zN 17 ?_;refine zN 18 ?_;refine zN 19 ?_;refine zt ?_;refine zB 20 ?_;refine Ao3 rfl rfl rfl rfl (Ab9 ?_)
     refine zB 21 ?_;refine Ao3 rfl rfl rfl rfl (Ab9 ?_)
     refine zB 22 ?_;refine Ao3 rfl rfl rfl rfl (Ab9 ?_)
     refine zp 23 ?_;refine zp 24 ?_;refine zp 25 ?_;refine zd ?_;exact Ai5 () trivial rfl (zE 4 rfl (by first | rw [BR3 g14'] | rw [BR5 g20'] | rw [BR4 g14' g20'] | rw [AV7 g8']) (zS 2 rfl (zS 3 rfl (Sub.nil _)))) (.cons .here rfl (.cons .here rfl .nil))
    intro g14;have g14':=g14;clear g14;try simp only [nH] at g14'
    refine zw 10 ?_;refine zw 11 ?_;refine zw 12 ?_;refine zw 13 ?_;refine zw 14 ?_;refine zw 15 ?_;refine Ap5 (dj:=20) rfl ?_ ?_
    ·intro g20
     have g20':=g20;clear g20;try simp only [nH] at g20'
     refine zw 16 ?_;refine zv 17 rfl (Az1 rfl Ah8) ?_;refine zw 18 ?_;refine zv 19 rfl (Az1 rfl Ah8) ?_;refine zt ?_;refine zq 20 rfl (zF rfl CU5) (fun w hm=>BZ5 [a.ll,a.lr,a.rl,a.rr] [b.ll,b.lr,b.rl,b.rr] rfl (by simp) (some ⟨b2,1,none⟩) b2 1 4 (some ⟨b3,1,none⟩) b3 1 4 w (Sl.row1At (pre:=[_]) (hm.at (.tail _ (.head _)))) (Sl.row1At (pre:=[_]) (hm.at (.head _)))) ?_;refine zp 21 ?_;refine zp 22 ?_;refine zp 23 ?_;refine zp 24 ?_;refine zp 25 ?_;refine zd ?_;exact Ai5 () trivial rfl (zE 4 rfl (by first | rw [BR3 g14'] | rw [BR5 g20'] | rw [BR4 g14' g20'] | rw [AV7 g8']) (zS 2 rfl (zS 3 rfl (Sub.nil _)))) (.cons .here rfl (.cons .here rfl .nil))
    intro g20;have g20':=g20;clear g20;try simp only [nH] at g20'
    refine zN 16 ?_;refine zN 17 ?_;refine zN 18 ?_;refine zN 19 ?_;refine zt ?_;refine zB 20 ?_;refine Ao3 rfl rfl rfl rfl (Ab9 ?_)
    refine zB 21 ?_;refine Ao3 rfl rfl rfl rfl (Ab9 ?_)
    refine zp 22 ?_;refine zp 23 ?_;refine zp 24 ?_;refine zp 25 ?_;refine zd ?_;exact Ai5 () trivial rfl (zE 4 rfl (by first | rw [BR3 g14'] | rw [BR5 g20'] | rw [BR4 g14' g20'] | rw [AV7 g8']) (zS 2 rfl (zS 3 rfl (Sub.nil _)))) (.cons .here rfl (.cons .here rfl .nil))
   intro g8;have g8':=g8;clear g8;try simp only [nH] at g8'
   refine zN 4 ?_;refine zN 5 ?_;refine zN 6 ?_;refine zN 7 ?_;refine zN 8 ?_;refine zN 9 ?_;refine zN 10 ?_;refine zN 11 ?_;refine zN 12 ?_;refine zN 13 ?_;refine zN 14 ?_;refine zN 15 ?_;refine zN 16 ?_;refine zN 17 ?_;refine zN 18 ?_;refine zN 19 ?_;refine zt ?_;refine zB 20 ?_;refine Ao3 rfl rfl rfl rfl (Ab9 ?_)
   refine zB 21 ?_;refine Ao3 rfl rfl rfl rfl (Ab9 ?_)
   refine zB 22 ?_;refine Ao3 rfl rfl rfl rfl (Ab9 ?_)
   refine zB 23 ?_;refine Ao3 rfl rfl rfl rfl (Ab9 ?_)
   refine zp 24 ?_;refine zp 25 ?_;refine zd ?_;exact Ai5 () trivial rfl (zE 4 rfl (by first | rw [BR3 g14'] | rw [BR5 g20'] | rw [BR4 g14' g20'] | rw [AV7 g8']) (zS 2 rfl (zS 3 rfl (Sub.nil _)))) (.cons .here rfl (.cons .here rfl .nil))
  intro x xI;refine su ?_;exact Aa4 (.r1 rfl (.tmp rfl)) (by first | rfl | simp)
end Go.Proofs.YtnmkdiagbkkmaabGreatDoor
namespace Go.Proofs.YtnmkdiagbkkmaabGreatDoor
open Go Go.Eng Go.Pw1

structure TrY (c:Cd) (q:Option Addr) (cap bc bm b1:Nat) (W:World):Prop where
  v:W.heap[bc]? = some (cdO c q cap bm)
  x:W.heap[b1]? = some (.cells [.pointer (some ⟨bc,0,none⟩)].toArray 137 (0,0))
theorem TrY.mem {c:Cd} {q:Option Addr} {cap bc bm b1:Nat} {W w:World} {news:Blks} (h:TrY c q cap bc bm b1 W) (hm:Mem W [] news w):TrY c q cap bc bm b1 w:=⟨hm.old_at h.v (by simp),hm.old_at h.x (by simp)⟩
theorem TrY.kp {c:Cd} {q:Option Addr} {cap bc bm b1 B:Nat} {nm:List Nat} {W W':World} (h:TrY c q cap bc bm b1 W) (h1:bc < B∧bc ∉ nm) (h2:b1 < B∧b1 ∉ nm) (hk:KpX B nm W W'):TrY c q cap bc bm b1 W' :=
  ⟨(hk bc h1.1 h1.2).trans h.v,(hk b1 h2.1 h2.2).trans h.x⟩
theorem AW6 (bc:Nat) (W:World):Calls Tryz.prog 226 #[.pointer (some ⟨bc,0,none⟩)] W (News (fun b=>.func (.func 240) #[] #[.pointer (some ⟨b,0,none⟩)]) (fun b=>[(b,.cells [.pointer (some ⟨bc,0,none⟩)].toArray 137 (0,0))]) W):=by
  refine Aa0 Tryz.func226 rfl rfl ?_;refine st ?_;refine zn (New.box rfl) (fun b1=>?_)
  exact RunE.ret (chg:=[]) (.r1 rfl (.tmp rfl)) (fun _ hm=>⟨b1,rfl,hm⟩)
abbrev pre3 (c:Cd) (k m n:Nat):List Tr:=trO c (fromZ 0 k)++trA c k (fromZ (oneLo c k) m)++trD k (oneLo c k + m) (fromZ (oneLo c k) n)
set_option maxHeartbeats 2000000 in
theorem BD4 (c:Cd) (hc:c.Ok) (q:Option Addr) (cap bc bm b1:Nat) (w0:World) (nm:List Nat) (h0:TrY c q cap bc bm b1 w0) (hs1:bc < w0.heap.size∧bc ∉ nm) (hs2:b1 < w0.heap.size∧b1 ∉ nm) :
    SeqStopsK (Fr none) 8 Tryz.prog 240 #[.pointer (some ⟨b1,0,none⟩)] (fun x:TrS c=>#[.agg #[.int .i64 x.1.ll,.int .i64 x.1.lr,.int .i64 x.1.rl,.int .i64 x.1.rr]]) (KpX w0.heap.size nm) (fun xs=>xs=subL c (trimsM c)) (fun pre=>∃ rest,pre++rest=subL c (trimsM c)) 200000 w0:=by
  unfold SeqStopsK;intro l J Jx W hW hJ hJx hY hJ0;have c1:=hc.c1;have c2:=hc.c2;have hSn:TrY c q cap bc bm b1 W:=⟨(hW.block bc hs1.1).trans h0.v,(hW.block b1 hs2.1).trans h0.x⟩;have hJm:∀ {s:List (TrS c)} {A C:World} {news:Blks},J s A→Mem A [] news C→J s C:=fun h hm=>hJ _ _ _ none h hm.grown (fun r e=>by cases e)
  have hJxm:∀ {s:List (TrS c)} {A C:World} {news:Blks},Jx s A→Mem A [] news C→Jx s C:=fun h hm=>hJx _ _ _ none h hm.grown (fun r e=>by cases e)
  have hYY:∀ (pre:List (TrS c)) (x:TrS c) (A:World),J pre A→pre.length < 200000→TrY c q cap bc bm b1 A→YieldAt (Fr none) 8 Tryz.prog l #[.agg #[.int .i64 x.1.ll,.int .i64 x.1.lr,.int .i64 x.1.rl,.int .i64 x.1.rr]] A (fun e w'=>∃ y,e = .returned (.bool y)∧((y=true∧J (pre++[x]) w'∧TrY c q cap bc bm b1 w')∨(y=false∧Jx (pre++[x]) w'))):=fun pre x A h1 h2 h3 =>
    AJ9 (hY pre x A h1 h2) (fun e w' hh=>by
      rcases hh with ⟨rfl,hh,hk⟩ | ⟨rfl,hh⟩
      · exact ⟨true,rfl,.inl ⟨rfl,hh,h3.kp hs1 hs2 hk⟩⟩
      · exact ⟨false,rfl,.inr ⟨rfl,hh⟩⟩)
  have hlen:=Ce0 hc;refine AD8 (vs:=[.func (.yield l) #[] #[],.pointer (some ⟨b1,0,none⟩)]) Tryz.func240 rfl rfl ?_ 8
  refine RunCR.seq ?_;refine RunCR.region ?_;refine Aa6 (Aa2 rfl hSn.x (by simp) AQ8 rfl) rfl rfl rfl ?_;refine Aa6 (Aa3 rfl) rfl rfl rfl ?_;refine Aa6 (Val.fieldAddr rfl AB0) rfl rfl rfl ?_;refine Aa6 (Val.fieldAddr rfl AI4) rfl rfl rfl ?_;refine Aa6 (Aa2 rfl hSn.v (by simp) Ag4 rfl) rfl rfl rfl ?_;refine Aa6 (Val.mul rfl rfl (IntWalk.i64_in _ ⟨by omega,by omega⟩)) rfl rfl rfl ?_;refine Aa6 (Val.add rfl rfl (IntWalk.i64_in _ ⟨by omega,by omega⟩)) rfl rfl rfl ?_;refine Aa6 (Aa3 rfl) rfl rfl rfl ?_;refine RunLR.nil ?_;refine RunER.next ?_;refine RunCR.block ?_;refine Aq7 ((2 * c.cuts + 1).toNat) (fun k q=>(13,.int .i64 (k:Int))::q) (fun k Wk=>J (subL c (trO c (fromZ 0 k))) Wk∧TrY c q cap bc bm b1 Wk) (fun w hm=>⟨hJm hJ0 hm,hSn.mem hm⟩) (zE 13 rfl rfl (zS 0 rfl (zS 1 rfl (zS 12 rfl (Sub.nil _))))) ?_;intro k Wk kN kI;obtain ⟨hJk,hSk⟩:=kI;refine RunCR.seq ?_;refine RunCR.region ?_;refine Aa6 (Aa3 rfl) rfl rfl rfl ?_;refine RunLR.nil ?_;refine RunER.next ?_;refine RunCR.seq ?_;refine RunCR.cond rfl ?_ ?_
  ·intro c0
   have c0':=c0;clear c0;try simp only [nH] at c0'
   have hk:k < (2 * c.cuts + 1).toNat:=by omega
   have lo0:0≤oneLo c k∧oneLo c k≤80:=by unfold oneLo;omega
   refine RunCR.skip ?_;refine RunER.next ?_;refine RunCR.seq ?_;refine RunCR.block ?_;refine RunCR.seq ?_;refine RunCR.region ?_;refine Aa6 (Aa3 rfl) rfl rfl rfl ?_;refine Aa6 (Aa3 rfl) rfl rfl rfl ?_;refine RunLR.nil ?_;refine RunER.next ?_;refine RunCR.seq ?_;refine RunCR.region ?_;refine Aa6 (Aa3 rfl) rfl rfl rfl ?_;refine Aa6 (Aa2 rfl hSk.x (by simp) AQ8 rfl) rfl rfl rfl ?_;refine Aa6 (Aa3 rfl) rfl rfl rfl ?_;refine Aa6 (Val.fieldAddr rfl AB0) rfl rfl rfl ?_;refine Aa6 (Val.fieldAddr rfl AI4) rfl rfl rfl ?_;refine Aa6 (Aa2 rfl hSk.v (by simp) Ag4 rfl) rfl rfl rfl ?_;refine Aa6 (Ae9 rfl rfl (IntWalk.i64_in _ ⟨by omega,by omega⟩)) rfl rfl rfl ?_;refine Aa6 (Val.max rfl rfl) rfl rfl rfl ?_;refine Aa6 (Aa3 rfl) rfl rfl rfl ?_;refine RunLR.nil ?_;refine RunER.next ?_;refine RunCR.block ?_;refine Aq7 (oneN c k) (fun m q=>(4,.int .i64 (oneLo c k + m))::q) (fun m Wm=>J (subL c (trO c (fromZ 0 k)++trA c k (fromZ (oneLo c k) m))) Wm∧TrY c q cap bc bm b1 Wm) (fun w hm=>⟨hJm (by simpa [trA,fromZ] using hJk) hm,hSk.mem hm⟩) (zE 4 rfl (by simp [oneLo]) (zS 0 rfl (zS 1 rfl (zS 3 rfl (zS 12 rfl (zS 13 rfl (Sub.nil _))))))) ?_;intro m Wm mN mI;obtain ⟨hJa,hSm⟩:=mI;refine RunCR.seq ?_;refine RunCR.seq ?_;refine RunCR.region ?_;refine Aa6 (Aa3 rfl) rfl rfl rfl ?_;refine Aa6 (Aa3 rfl) rfl rfl rfl ?_;refine Aa6 (Aa2 rfl hSm.x (by simp) AQ8 rfl) rfl rfl rfl ?_;refine Aa6 (Aa3 rfl) rfl rfl rfl ?_;refine Aa6 (Val.fieldAddr rfl AB0) rfl rfl rfl ?_;refine Aa6 (Val.fieldAddr rfl AI4) rfl rfl rfl ?_;refine Aa6 (Aa2 rfl hSm.v (by simp) Ag4 rfl) rfl rfl rfl ?_;refine Aa6 (Val.min rfl rfl) rfl rfl rfl ?_;refine Aa6 (Aa3 rfl) rfl rfl rfl ?_;refine RunLR.nil ?_;refine RunER.next ?_;refine RunCR.cond rfl ?_ ?_
   ·intro c1
    have c1':=c1;clear c1;try simp only [nH] at c1'
    have hm3:m < oneN c k:=by unfold oneN oneHi;omega
    refine RunCR.skip ?_;refine RunER.next ?_;refine RunCR.seq ?_;refine RunCR.block ?_;refine RunCR.seq ?_;refine RunCR.region ?_;refine Aa6 (Aa3 rfl) rfl rfl rfl ?_;refine Aa6 (Aa2 rfl hSm.x (by simp) AQ8 rfl) rfl rfl rfl ?_;refine Aa6 (Aa3 rfl) rfl rfl rfl ?_;refine Aa6 (Val.fieldAddr rfl AB0) rfl rfl rfl ?_;refine Aa6 (Val.fieldAddr rfl AI4) rfl rfl rfl ?_;refine Aa6 (Aa2 rfl hSm.v (by simp) Ag4 rfl) rfl rfl rfl ?_;refine Aa6 (Ae9 rfl rfl (IntWalk.i64_in _ ⟨by omega,by omega⟩)) rfl rfl rfl ?_;refine Aa6 (Val.max rfl rfl) rfl rfl rfl ?_;refine Aa6 (Aa3 rfl) rfl rfl rfl ?_;refine RunLR.nil ?_;refine RunER.next ?_;refine RunCR.block ?_;refine Aq7 (oneN c k) (fun n q=>(5,.int .i64 (oneLo c k + n))::q) (fun n Wn=>J (subL c (pre3 c k m n)) Wn∧TrY c q cap bc bm b1 Wn) (fun w hm=>⟨hJm (by simpa [pre3,trD,fromZ] using hJa) hm,hSm.mem hm⟩) (zE 5 rfl (by simp [oneLo]) (zS 0 rfl (zS 1 rfl (zS 3 rfl (zS 4 rfl (zS 12 rfl (zS 13 rfl (Sub.nil _)))))))) ?_;intro n Wn nN nI;obtain ⟨hJn,hSn3⟩:=nI;refine RunCR.seq ?_;refine RunCR.seq ?_;refine RunCR.region ?_;refine Aa6 (Aa3 rfl) rfl rfl rfl ?_;refine Aa6 (Aa3 rfl) rfl rfl rfl ?_;refine Aa6 (Aa2 rfl hSn3.x (by simp) AQ8 rfl) rfl rfl rfl ?_;refine Aa6 (Aa3 rfl) rfl rfl rfl ?_;refine Aa6 (Val.fieldAddr rfl AB0) rfl rfl rfl ?_;refine Aa6 (Val.fieldAddr rfl AI4) rfl rfl rfl ?_;refine Aa6 (Aa2 rfl hSn3.v (by simp) Ag4 rfl) rfl rfl rfl ?_;refine Aa6 (Val.min rfl rfl) rfl rfl rfl ?_;refine Aa6 (Aa3 rfl) rfl rfl rfl ?_;refine RunLR.nil ?_;refine RunER.next ?_;refine RunCR.cond rfl ?_ ?_
    ·intro c2
     have c2':=c2;clear c2;try simp only [nH] at c2'
     have hn3:n < oneN c k:=by unfold oneN oneHi;omega
     obtain ⟨rest,hrest⟩:=BD5 hk hm3 hn3;have hx:trIs c ⟨oneLo c k + m,k - (oneLo c k + m),oneLo c k + n,k - (oneLo c k + n)⟩=true:=(AL5 hc).1 (by rw [← hrest];simp);have e3:subL c (pre3 c k m (n + 1))=subL c (pre3 c k m n)++[(⟨_,hx⟩:TrS c)]:=by (rw [← Bm3 hx,← AB9];congr 1;unfold pre3;rw [show fromZ (oneLo c k) (n + 1)=fromZ (oneLo c k) n++[oneLo c k + n] from rfl,CA0];simp only [List.append_assoc])
     have e4:(subL c (pre3 c k m n)++[(⟨_,hx⟩:TrS c)])++subL c rest=subL c (trimsM c):=by rw [← Bm3 hx,← AB9,← AB9,← hrest,List.append_assoc]
     have hlt:(subL c (pre3 c k m n)).length < 200000:=by have h1:=congrArg List.length e4;have h2:=CA5 c (trimsM c);rw [List.length_append,List.length_append] at h1;omega
     refine RunCR.skip ?_;refine RunER.next ?_;refine RunCR.seq ?_;refine RunCR.block ?_;refine RunCR.seq ?_;refine RunCR.region ?_
     iterate 4 refine Aa6 (Aa3 rfl) rfl rfl rfl ?_
     refine Aa6 (Ae9 rfl rfl (IntWalk.i64_in _ ⟨by omega,by omega⟩)) rfl rfl rfl ?_
     iterate 3 refine Aa6 (Aa3 rfl) rfl rfl rfl ?_
     refine Aa6 (Ae9 rfl rfl (IntWalk.i64_in _ ⟨by omega,by omega⟩)) rfl rfl rfl ?_;refine Aa6 (Val.build (parts:=[(0,.tmp 55),(1,.tmp 58),(2,.tmp 59),(3,.tmp 62)]) rfl Ax8 Bg6 rfl) rfl rfl rfl ?_;refine RunLR.yield (RY:=fun y w'=>(y=true∧J (subL c (pre3 c k m n)++[(⟨_,hx⟩:TrS c)]) w'∧TrY c q cap bc bm b1 w')∨(y=false∧Jx (subL c (pre3 c k m n)++[(⟨_,hx⟩:TrS c)]) w')) (Ak0 rfl rfl) rfl rfl rfl (fun w hm=>hYY _ (⟨_,hx⟩:TrS c) w (hJm hJn hm) hlt (hSn3.mem hm)) ?_;intro y64 W64 h64;refine Aa6 (Aa3 rfl) rfl rfl rfl ?_;refine RunLR.nil ?_;refine RunER.next ?_;refine RunCR.cond rfl ?_ ?_
     ·intro c3
      have c3':=c3;clear c3;try simp only [nH] at c3'
      refine RunCR.ret ?_;refine Ad3 ?_;refine Ad2 ?_;refine Ad2 ?_;refine Ad3 ?_;refine Ad3 ?_;refine Ad2 ?_;refine Ad2 ?_;refine Ad3 ?_;refine Ad3 ?_;refine Ad2 ?_;refine Ad2 ?_;refine Ad3 ?_;intro a w2 s
      rcases h64 with ⟨h,_⟩ | ⟨_,hX2⟩
      ·rw [h] at c3';cases c3'
      exact ⟨s.defers,_,results_none rfl _ _ _,⟨_,rfl⟩,.inr ⟨_,⟨_,e4⟩,hJxm hX2 s.mem⟩⟩
     intro c3;have c3':=c3;clear c3;try simp only [nH] at c3'
     refine RunCR.skip ?_;refine st ?_;refine RunER.next ?_;refine RunCR.region ?_;refine Aa6 (Aa3 rfl) rfl rfl rfl ?_;refine Aa6 (Val.add rfl rfl (IntWalk.i64_in _ ⟨by omega,by omega⟩)) rfl rfl rfl ?_;refine Aa6 (Aa3 rfl) rfl rfl rfl ?_;refine RunLR.nil ?_;exact Am2 (by omega) (fun w hm=>(by rcases h64 with ⟨_,hJ2,hS2⟩ | ⟨h,_⟩;exact ⟨by (rw [e3];exact hJm hJ2 hm),hS2.mem hm⟩;rw [h] at c3';cases c3')) (zE 5 rfl (congrArg (Value.int .i64) (by omega)) (zS 0 rfl (zS 1 rfl (zS 3 rfl (zS 4 rfl (zS 12 rfl (zS 13 rfl (Sub.nil _))))))))
    intro c2;have c2':=c2;clear c2;try simp only [nH] at c2'
    obtain rfl:n=oneN c k:=by (unfold oneN oneHi at *;omega)
    refine RunCR.exit ?_;refine su ?_;refine Ab1 ?_;refine st ?_;refine RunER.next ?_;refine RunCR.region ?_;refine Aa6 (Aa3 rfl) rfl rfl rfl ?_;refine Aa6 (Val.add rfl rfl (IntWalk.i64_in _ ⟨by omega,by omega⟩)) rfl rfl rfl ?_;refine Aa6 (Aa3 rfl) rfl rfl rfl ?_;refine RunLR.nil ?_;exact Am2 (by omega) (fun w hm=>⟨by (rw [show fromZ (oneLo c k) (m + 1)=fromZ (oneLo c k) m++[oneLo c k + m] from rfl,CA1,← List.append_assoc];exact hJm hJn hm),hSn3.mem hm⟩) (zE 4 rfl (congrArg (Value.int .i64) (by omega)) (zS 0 rfl (zS 1 rfl (zS 3 rfl (zS 12 rfl (zS 13 rfl (Sub.nil _)))))))
   intro c1;have c1':=c1;clear c1;try simp only [nH] at c1'
   obtain rfl:m=oneN c k:=by (unfold oneN oneHi at *;omega)
   refine RunCR.exit ?_;refine su ?_;refine Ab1 ?_;refine st ?_;refine RunER.next ?_;refine RunCR.region ?_;refine Aa6 (Val.add rfl rfl (IntWalk.i64_in _ ⟨by omega,by omega⟩)) rfl rfl rfl ?_;refine Aa6 (Aa3 rfl) rfl rfl rfl ?_;refine RunLR.nil ?_;exact Am2 (by omega) (fun w hm=>⟨by (rw [show fromZ 0 (k + 1)=fromZ 0 k++[(k:Int)] by simp [fromZ],Cz9];exact hJm hJa hm),hSm.mem hm⟩) (zE 13 rfl rfl (zS 0 rfl (zS 1 rfl (zS 12 rfl (Sub.nil _)))))
  intro c0;have c0':=c0;clear c0;try simp only [nH] at c0'
  obtain rfl:k=(2 * c.cuts + 1).toNat:=by omega
  refine RunCR.exit ?_;refine su ?_;refine Ab1 ?_;intro a w2 s;exact ⟨s.defers,_,results_none rfl _ _ _,⟨_,rfl⟩,.inl ⟨_,rfl,hJm hJk s.mem⟩⟩
end Go.Proofs.YtnmkdiagbkkmaabGreatDoor
namespace Go.Pw1
open Go Go.Eng
def bestV (o:Option Tr):Value:=.tuple #[.agg #[.int .i64 (o.getD tz).ll,.int .i64 (o.getD tz).lr,.int .i64 (o.getD tz).rl,.int .i64 (o.getD tz).rr],.bool o.isSome]
theorem Da1 {c:Cd} {pre:List (TrS c)} {x:TrS c} {u:Tr} (h:bO c pre=some u) (h2:befT u x.1):bO c (pre++[x])=bO c pre:=by rw [BK6,h];simp [bstep,h2]
theorem CO2 {c:Cd} {pre:List (TrS c)} {x:TrS c} (h:∀ u,bO c pre=some u→¬ befT u x.1) (h2:fitT c x.1=true):bO c (pre++[x])=some x.1:=by
  rw [BK6]
  cases ho:bO c pre with
  | none=>simp [bstep,h2]
  | some u=>simp [bstep,h u ho,h2]
theorem CO1 {c:Cd} {pre:List (TrS c)} {x:TrS c} (h2:fitT c x.1=false):bO c (pre++[x])=bO c pre:=by
  rw [BK6]
  cases ho:bO c pre with
  | none=>simp [bstep,h2]
  | some u=>simp [bstep,h2]
end Go.Pw1
namespace Go.Proofs.YtnmkdiagbkkmaabGreatDoor
open Go Go.Eng Go.Pw1

theorem BZ8 (c:Cd) (q:Option Addr) (b o cap bc bm:Nat) (W:World) (h:CdAt c q b o cap bc bm W) :
    Calls Tryz.prog 187 #[.pointer (some ⟨bc,0,none⟩)] W (Pure (bestV (bestM c)) W):=by
  have hv:=h.v;have hM:=h.m;have hc:=h.ok;have c2:=hc.c2;refine Aj6 Tryz.func187 rfl rfl ?_;refine st ?_;refine zn (New.box rfl) (fun b1=>?_)
  refine zn (New.alloc Ax8) (fun b2=>?_)
  refine zn (New.alloc Da5) (fun b3=>?_)
  refine RunC.scope ?_;refine st ?_;refine zn (New.alloc Bl1) (fun b4=>?_)
  refine RunC.label ?_;refine su ?_;refine Ag3 (zF rfl CV1) rfl rfl rfl (fun w hm=>AW6 bc w) (fun b10=>?_)
  refine st ?_;refine BL7 (α:=TrS c) (Y:=Nat) (N:=200000) (S:=fun xs=>xs=subL c (trimsM c)) (Sp:=fun pre=>∃ rest,pre++rest=subL c (trimsM c)) [(b10,_),(b1,_)] (fun x=>[.agg #[.int .i64 x.1.ll,.int .i64 x.1.lr,.int .i64 x.1.rl,.int .i64 x.1.rr]]) (fun pre=>[(b2,.cells [.int .i64 ((bO c pre).getD tz).ll,.int .i64 ((bO c pre).getD tz).lr,.int .i64 ((bO c pre).getD tz).rl,.int .i64 ((bO c pre).getD tz).rr].toArray 188 (0,0)),(b3,.cells [.bool (bO c pre).isSome].toArray 4 (0,0)),(b4,.cells [.int .i64 (sumT ((bO c pre).getD tz)),.int .i64 ((bO c pre).getD tz).ll,.int .i64 ((bO c pre).getD tz).lr,.int .i64 ((bO c pre).getD tz).rl,.int .i64 ((bO c pre).getD tz).rr].toArray 312 (0,0))]) (fun x y q=>(5,.pointer (some ⟨y,0,none⟩))::q) (fun x y=>[(y,.cells ([.int .i64 x.1.ll,.int .i64 x.1.lr,.int .i64 x.1.rl,.int .i64 x.1.rr]).toArray 188 (0,0))]) (fun e pre V=>e = .exit 0∧∃ pre0 x u,pre=pre0++[x]∧bO c pre0=some u∧V=[(b2,.cells [.int .i64 u.ll,.int .i64 u.lr,.int .i64 u.rl,.int .i64 u.rr].toArray 188 (0,0)),(b3,.cells [.bool true].toArray 4 (0,0)),(b4,.cells [.int .i64 (sumT u),.int .i64 u.ll,.int .i64 u.lr,.int .i64 u.rl,.int .i64 u.rr].toArray 312 (0,0))]) (zS 1 rfl (zS 2 rfl (zS 3 rfl (zS 4 rfl (Sub.nil _))))) (.cons (.there (.there (.there .here))) rfl (.cons (.there (.there .here)) rfl (.cons (.there .here) rfl (.cons .here rfl (.cons .here rfl .nil))))) (fun _=>rfl) (fun _ _ _ hb=>by simp only [List.mem_cons,List.not_mem_nil,or_false,Prod.mk.injEq] at hb;rcases hb with ⟨_,rfl⟩ | ⟨_,rfl⟩ | ⟨_,rfl⟩ <;> rfl) (fun _ _ _ _ hb=>by simp only [List.mem_cons,List.not_mem_nil,or_false,Prod.mk.injEq] at hb;obtain ⟨_,rfl⟩:=hb;rfl) (fun _=>rfl) rfl rfl CU6 (fun w hm=>BD4 c hc q cap bc bm b10 w _ ⟨hm.old_at hv (by simp),hm.at (.tail _ (.tail _ (.tail _ (.head _))))⟩ (hm.oldApart (Array.getElem?_eq_some_iff.1 hv).1) (hm.apart (.head _))) ?_ ?_ ?_ ?_
  ·intro l1 pre x V1 hV1
   refine Ac3 ?_;refine zn (New.alloc Ax8) (fun b5=>?_)
   refine Aa9 (Sto.store rfl rfl .here Ar4 rfl rfl) rfl rfl ?_;refine st ?_;exact Bs2 b5 rfl (zE 5 rfl rfl (zS 1 rfl (zS 2 rfl (zS 3 rfl (zS 4 rfl (Sub.nil _)))))) (.cons .here rfl .nil)
  ·intro l1 pre x y W1 hlen1 hI1 hL1 hAp1
   have hv1_b10:=hI1.at (.tail _ (.tail _ (.tail _ (.head _))));have hn1_b10:=hAp1 _ (.inl ⟨_,(.head _)⟩);have hv1_b1:=hI1.at (.tail _ (.tail _ (.tail _ (.tail _ (.head _)))));have hn1_b1:=hAp1 _ (.inl ⟨_,(.tail _ (.head _))⟩);have hv1_bc:=hI1.old_at hv (by simp);have hn1_bc:=hAp1 _ (.inr (Array.getElem?_eq_some_iff.1 hv).1);have hv1_bm:=hI1.old_at hM (by simp);have hn1_bm:=hAp1 _ (.inr (Array.getElem?_eq_some_iff.1 hM).1);have hx:=AW7 x.2;obtain ⟨⟨x1,x2,x3,x4,x5,x6,x7,x8⟩,x9⟩:=hx;have hx:=AW7 x.2;have hCd:∀ {c0 nw:Blks} {w:World},Mem W1 c0 nw w→c0.map (·.1)=_→CdAt c q b o cap bc bm w:=fun hm hc0=>h.mem (hI1.flat hm (fun b hb=>by rw [hc0];exact hAp1 b (.inr hb)))
   refine RunCR.block ?_;refine RunCR.seq ?_;refine Ac3 ?_;refine lu (Ab2 rfl rfl Ah8 (by decide) (by decide)) ?_;refine lu (Ab2 rfl rfl Ah8 (by decide) (by decide)) ?_;refine lv (Val.add rfl rfl (IntWalk.i64_in _ ⟨by omega,by omega⟩)) ?_;refine lu (Ab2 rfl rfl Ah8 (by decide) (by decide)) ?_;refine lv (Val.add rfl rfl (IntWalk.i64_in _ ⟨by omega,by omega⟩)) ?_;refine lu (Ab2 rfl rfl Ah8 (by decide) (by decide)) ?_;refine lu (Val.add rfl rfl (IntWalk.i64_in _ ⟨by omega,by omega⟩)) ?_;refine lv (Val.build (parts:=[(0,.tmp 22),(1,.tmp 23)]) rfl Bl1 BV3 rfl) ?_;refine zn (New.alloc Bl1) (fun b6=>?_)
   refine Aa9 (Sto.store rfl rfl .here Bf1 rfl rfl) rfl rfl ?_;refine st ?_;refine RunER.next ?_;refine RunCR.seq ?_;refine RunCR.seq ?_;refine Ac3 ?_;refine su ?_;refine RunER.next ?_;refine RunCR.cond rfl ?_ ?_
   ·intro c0
    have c0':=c0;clear c0;try simp only [nH] at c0'
    obtain ⟨u,hu⟩:∃ u,bO c pre=some u:=Option.isSome_iff_exists.1 c0';simp only [hu,Option.getD_some,Option.isSome_some];refine RunCR.seq ?_;refine RunCR.seq ?_;refine Ac3 ?_;refine su ?_;refine RunER.next ?_;refine RunCR.cond rfl ?_ ?_
    ·intro c1
     have c1':=c1;clear c1;try simp only [nH] at c1'
     refine RunCR.exit ?_;refine su ?_;refine Ak7 rfl ?_;exact Bc8 [(b2,_),(b3,_),(b4,_)] [(y,_)] ⟨rfl,pre,x,u,rfl,hu,rfl⟩ rfl
    intro c1;have c1':=c1;clear c1;try simp only [nH] at c1'
    refine RunCR.skip ?_;refine RunER.next ?_;refine RunCR.seq ?_;refine Ac3 ?_;refine su ?_;refine zc (zF rfl CV0) (fun w hm=>Bn5 u x.1 w) ?_;refine RunER.next ?_;refine RunCR.cond rfl ?_ ?_
    ·intro c2
     have c2':=c2;clear c2;try simp only [nH] at c2'
     refine RunCR.exit ?_;refine Al2 ?_;refine Ab1 ?_;exact Aq6 [(y,_)] (by simp only [Da1 hu c2',hu,Option.getD_some,Option.isSome_some];rfl)
    intro c2;have c2':=c2;clear c2;try simp only [nH] at c2'
    refine RunCR.skip ?_;refine RunER.next ?_;refine RunCR.seq ?_;refine Ac3 ?_;refine lu (Aa2 rfl hv1_b1 (Ay3 rfl hn1_b1) AQ8 rfl) ?_;refine lv (Val.build (parts:=[(0,.tmp 35),(1,.tmp 36)]) rfl AU3 AH5 rfl) ?_;refine zc (zF rfl BH9) (fun w hm=>AP7 c x.1 hx.1 q b o cap bc bm w (hCd hm rfl)) ?_;refine RunER.next ?_;refine RunCR.seq ?_;refine Ac3 ?_;refine st ?_;refine RunER.next ?_;refine RunCR.cond rfl ?_ ?_
    ·intro c3
     have c3':=c3;clear c3;try simp only [nH] at c3'
     have hfit:fitT c x.1=true:=decide_eq_true c3';refine Bd1 3 Aj3 (.cons .here rfl .nil) ?_;refine Ak8 (i:=1) rfl (by kernel_rfl) (by kernel_rfl) (fun c hck=>(Ah2 rfl (List.mem_append_right c (.head _)) Bf1 rfl)) rfl rfl rfl (fun _ _ _ h=>h) (.cons .here rfl .nil) rfl ?_;refine zA 0 ?_;refine Ai8 rfl (Ah2 rfl (.tail _ (.tail _ (.tail _ (.head _)))) Ar4 rfl) rfl rfl rfl (Aa7 (.cons .here rfl .nil) (.cons .here rfl .nil) rfl ?_)
     refine zA 2 ?_;refine Ac0 rfl (Ad1 rfl rfl .here Ar4 rfl rfl) rfl rfl (Aa7 (.cons .here rfl .nil) (.cons .here rfl .nil) rfl ?_)
     refine zt ?_;refine zB 3 ?_;refine Ac0 rfl (Ad1 rfl rfl (.there (.there .here)) Bf1 rfl rfl) rfl rfl (Ab9 ?_)
     refine zB 4 ?_;refine Ac0 rfl (Ad1 rfl rfl (.there .here) BT1 rfl rfl) rfl rfl (Ab9 ?_)
     refine zd ?_;refine st ?_;exact Aq6 [(y,_)] (by simp only [CO2 (fun u2 h2=>by (rw [hu] at h2;cases h2;exact c2')) hfit,Option.getD_some,Option.isSome_some];rfl)
    intro c3;have c3':=c3;clear c3;try simp only [nH] at c3'
    have hfit:fitT c x.1=false:=decide_eq_false c3';refine RunCR.skip ?_;refine st ?_;exact Aq6 [(y,_)] (by simp only [CO1 hfit,hu,Option.getD_some,Option.isSome_some];rfl)
   intro c0;have c0':=c0;clear c0;try simp only [nH] at c0'
   have hn:bO c pre=none:=by simpa using c0'
   refine RunCR.skip ?_;refine RunER.next ?_;refine RunCR.seq ?_;refine Ac3 ?_;refine lu (Aa2 rfl hv1_b1 (Ay3 rfl hn1_b1) AQ8 rfl) ?_;refine lv (Val.build (parts:=[(0,.tmp 35),(1,.tmp 36)]) rfl AU3 AH5 rfl) ?_;refine zc (zF rfl BH9) (fun w hm=>AP7 c x.1 hx.1 q b o cap bc bm w (hCd hm rfl)) ?_;refine RunER.next ?_;refine RunCR.seq ?_;refine Ac3 ?_;refine st ?_;refine RunER.next ?_;refine RunCR.cond rfl ?_ ?_
   ·intro c3
    have c3':=c3;clear c3;try simp only [nH] at c3'
    have hfit:fitT c x.1=true:=decide_eq_true c3';refine Bd1 3 Aj3 (.cons .here rfl .nil) ?_;refine Ak8 (i:=1) rfl (by kernel_rfl) (by kernel_rfl) (fun c hck=>(Ah2 rfl (List.mem_append_right c (.head _)) Bf1 rfl)) rfl rfl rfl (fun _ _ _ h=>h) (.cons .here rfl .nil) rfl ?_;refine zA 0 ?_;refine Ai8 rfl (Ah2 rfl (.tail _ (.tail _ (.tail _ (.head _)))) Ar4 rfl) rfl rfl rfl (Aa7 (.cons .here rfl .nil) (.cons .here rfl .nil) rfl ?_)
    refine zA 2 ?_;refine Ac0 rfl (Ad1 rfl rfl .here Ar4 rfl rfl) rfl rfl (Aa7 (.cons .here rfl .nil) (.cons .here rfl .nil) rfl ?_)
    refine zt ?_;refine zB 3 ?_;refine Ac0 rfl (Ad1 rfl rfl (.there (.there .here)) Bf1 rfl rfl) rfl rfl (Ab9 ?_)
    refine zB 4 ?_;refine Ac0 rfl (Ad1 rfl rfl (.there .here) BT1 rfl rfl) rfl rfl (Ab9 ?_)
    refine zd ?_;refine st ?_;exact Aq6 [(y,_)] (by simp only [CO2 (fun u2 h2=>by (rw [hn] at h2;cases h2)) hfit,Option.getD_some,Option.isSome_some];rfl)
   intro c3;have c3':=c3;clear c3;try simp only [nH] at c3'
   have hfit:fitT c x.1=false:=decide_eq_false c3';refine RunCR.skip ?_;refine st ?_;exact Aq6 [(y,_)] (by simp only [CO1 hfit];rfl)
  ·intro xs bD0 hXS
   obtain rfl:=hXS;rw [Dk6 hc];refine st ?_;refine Aw0 3 Aj3 (.cons .here rfl (.cons (.there .here) rfl (.cons (.there .here) rfl (.cons (.there .here) rfl (.cons (.there .here) rfl .nil))))) ?_;refine zw 1 ?_;refine zA 0 ?_;refine Ai8 rfl (Ah2 rfl (.tail _ (.head _)) Ar4 rfl) rfl rfl rfl (Aa7 (.cons .here rfl (.cons (.there .here) rfl (.cons (.there .here) rfl (.cons (.there .here) rfl (.cons (.there .here) rfl .nil))))) (.cons .here rfl (.cons .here rfl (.cons .here rfl (.cons .here rfl (.cons .here rfl .nil))))) rfl ?_)
   refine zA 2 ?_;refine Ac0 rfl (Sto.store rfl rfl (.there .here) Ar4 rfl rfl) rfl rfl (Aa7 (.cons .here rfl (.cons (.there .here) rfl (.cons (.there .here) rfl (.cons (.there .here) rfl (.cons (.there .here) rfl .nil))))) (.cons .here rfl (.cons .here rfl (.cons .here rfl (.cons .here rfl (.cons .here rfl .nil))))) rfl ?_)
   refine zt ?_;refine zB 3 ?_;refine Ac0 rfl (Sto.store rfl rfl (.there (.there .here)) BT1 rfl rfl) rfl rfl (Ab9 ?_)
   refine zd ?_;refine Ae6 ?_;refine su ?_;refine Ar3 ?_;exact Ap4 [bD0] (.cons .here rfl (.cons .here rfl (.cons .here rfl (.cons .here rfl (.cons .here rfl (.cons .here rfl .nil)))))) (.r2 rfl (.agg rfl (.head _) Ar4 rfl) (.one rfl (.tail _ (.head _)) BT1 rfl)) (AC6 (by rfl))
  intro c pre V' bD0 hSp hNm hSt;obtain ⟨rfl,pre0,x,u,rfl,hu,rfl⟩:=hSt;obtain ⟨rest,hrest⟩:=hSp;have hbest:=Da0 hc (by rw [← List.append_assoc];exact hrest) hu;refine RunC.exit ?_;refine Ab1 ?_;refine st ?_;refine Aw0 3 Aj3 (.cons .here rfl (.cons (.there .here) rfl (.cons (.there .here) rfl (.cons (.there .here) rfl (.cons (.there .here) rfl .nil))))) ?_;refine zw 1 ?_;refine zA 0 ?_;refine Ai8 rfl (Ah2 rfl (.tail _ (.head _)) Ar4 rfl) rfl rfl rfl (Aa7 (.cons .here rfl (.cons (.there .here) rfl (.cons (.there .here) rfl (.cons (.there .here) rfl (.cons (.there .here) rfl .nil))))) (.cons .here rfl (.cons .here rfl (.cons .here rfl (.cons .here rfl (.cons .here rfl .nil))))) rfl ?_)
  refine zA 2 ?_;refine Ac0 rfl (Sto.store rfl rfl (.there .here) Ar4 rfl rfl) rfl rfl (Aa7 (.cons .here rfl (.cons (.there .here) rfl (.cons (.there .here) rfl (.cons (.there .here) rfl (.cons (.there .here) rfl .nil))))) (.cons .here rfl (.cons .here rfl (.cons .here rfl (.cons .here rfl (.cons .here rfl .nil))))) rfl ?_)
  refine zt ?_;refine zB 3 ?_;refine Ac0 rfl (Sto.store rfl rfl (.there (.there .here)) BT1 rfl rfl) rfl rfl (Ab9 ?_)
  refine zd ?_;refine Ae6 ?_;refine su ?_;refine Ar3 ?_;exact Ap4 [bD0] (.cons .here rfl (.cons .here rfl (.cons .here rfl (.cons .here rfl (.cons .here rfl (.cons .here rfl .nil)))))) (.r2 rfl (.agg rfl (.head _) Ar4 rfl) (.one rfl (.tail _ (.head _)) BT1 rfl)) (AC6 (by rw [hbest];rfl))
end Go.Proofs.YtnmkdiagbkkmaabGreatDoor
namespace Go.Proofs.YtnmkdiagbkkmaabGreatDoor
open Go Go.Eng Go.Pw1

theorem Ca1 (c:Cd) (q:Option Addr) (b o cap:Nat) (W:World) (hS:Sl W q b o 9 (c.p.things.map Th.cells)) (hl:c.p.things.length≤100000000000) :
    Calls Tryz.prog 128 #[c.v q cap] W (Pure (.tuple #[(trimX c).1.v,.int .i64 (trimX c).2]) W):=by
  by_cases h0:openM c []=0
  · obtain ⟨hc,hpk⟩:=Ci8 h0
    refine Aa0 Tryz.func128 rfl rfl ?_;refine st ?_;refine zn (New.box rfl) (fun b1=>?_)
    refine zn (New.alloc An6) (fun b2=>?_)
    refine Ag3 (zF rfl AR7) rfl rfl rfl (fun w hm=>AC7 c [] h0 q b o cap none 0 0 0 w (hS.mono (by decide) hm (by simp)) hl Sl.emp (by simp)) (fun b10=>?_)
    refine st ?_;refine RunC.cond rfl (fun h=>absurd h (by decide)) ?_;intro c0;clear c0;refine st ?_;refine zc (zF rfl CW9) (fun w hm=>BZ8 c q b o cap b10.1 b10.2 w ⟨hm.at (.head _),hm.at (.tail _ (.head _)),hS.mono (by decide) hm (by simp),hc,hpk⟩) ?_;refine zn (New.alloc Ax8) (fun b6=>?_)
    refine Aa9 (Sto.store rfl rfl .here Ar4 rfl rfl) rfl rfl ?_;refine st ?_;refine cn rfl ?_ ?_
    ·intro c1'
     have hb:bestM c=none:=by simpa using c1'
     refine st ?_;refine lv (Val.build (parts:=[]) rfl An6 AF2 rfl) ?_;refine Aa9 (Sto.store rfl rfl (.there (.there (.there .here))) AE8 rfl rfl) rfl rfl ?_;refine su ?_;exact Aa4 (.r2 rfl (.agg rfl (.tail _ (.tail _ (.tail _ (.head _)))) AE8 rfl) (.tmp rfl)) (by simp only [trimX,h0,if_true,hb];rfl)
    intro c1';obtain ⟨u,hb⟩:∃ u,bestM c=some u:=Option.isSome_iff_exists.1 c1';refine su ?_;refine zc (zF rfl CW8) (fun w hm=>BI9 _ _ _ _ w) ?_;refine Aa9 (Sto.store rfl rfl (.there (.there (.there .here))) AE8 rfl rfl) rfl rfl ?_;refine su ?_;exact Aa4 (.r2 rfl (.agg rfl (.tail _ (.tail _ (.tail _ (.head _)))) AE8 rfl) (.tmp rfl)) (by simp only [trimX,h0,if_true,hb];rfl)
  · refine Aa0 Tryz.func128 rfl rfl ?_
    refine st ?_;refine zn (New.box rfl) (fun b1=>?_)
    refine zn (New.alloc An6) (fun b2=>?_)
    refine zc (zF rfl AR7) (fun w hm=>Ar0 c [] _ rfl h0 q b o cap none 0 0 0 w (hS.mono (by decide) hm (by simp)) hl Sl.emp (by simp)) ?_;refine RunC.cond rfl ?_ (fun h=>absurd h (by simp [h0]))
    intro c0;clear c0;refine st ?_;refine lv (Val.build (parts:=[]) rfl An6 AF2 rfl) ?_;refine Aa9 (Sto.store rfl rfl .here AE8 rfl rfl) rfl rfl ?_;refine su ?_;exact Aa4 (.r2 rfl (.agg rfl (.head _) AE8 rfl) (.tmp rfl)) (by simp only [trimX,h0,if_false];rfl)
end Go.Proofs.YtnmkdiagbkkmaabGreatDoor
namespace Go.Proofs.YtnmkdiagbkkmaabGreatDoor
open Go Go.Eng
theorem CY8:Enters Tryz.prog 133:=Aa1 Tryz.func133 (by kernel_rfl) rfl
theorem CN6:Enters Tryz.prog 14:=Aa1 Tryz.func14 (by kernel_rfl) rfl
theorem BI4:Enters Tryz.prog 142:=Aa1 Tryz.func142 (by kernel_rfl) rfl
theorem BI3:Enters Tryz.prog 143:=Aa1 Tryz.func143 (by kernel_rfl) rfl
theorem Cr4:Enters Tryz.prog 144:=Aa1 Tryz.func144 (by kernel_rfl) rfl
theorem Cr3:Enters Tryz.prog 148:=Aa1 Tryz.func148 (by kernel_rfl) rfl
theorem CW1:Enters Tryz.prog 208:=Aa1 Tryz.func208 (by kernel_rfl) rfl
theorem CW0:Enters Tryz.prog 209:=Aa1 Tryz.func209 (by kernel_rfl) rfl
theorem CV9:Enters Tryz.prog 210:=Aa1 Tryz.func210 (by kernel_rfl) rfl
theorem Bo9:Enters Tryz.prog 268:=Aa1 Tryz.func268 (by kernel_rfl) rfl
theorem CN0:Enters Tryz.prog 41:=Aa1 Tryz.func41 (by kernel_rfl) rfl
theorem CM5:Enters Tryz.prog 90:=Aa1 Tryz.func90 (by kernel_rfl) rfl
theorem Co1:fieldB Tryz.prog 291 0=some 0:=by kernel_rfl
instance:Fld Tryz.prog 291 0 0:=⟨Co1⟩
theorem Co0:fieldB Tryz.prog 291 1=some 1:=by kernel_rfl
instance:Fld Tryz.prog 291 1 1:=⟨Co0⟩
theorem BP6:fieldB Tryz.prog 70 0=some 0:=by kernel_rfl
instance:Fld Tryz.prog 70 0 0:=⟨BP6⟩
theorem CF7:fieldB Tryz.prog 70 1=some 1:=by kernel_rfl
instance:Fld Tryz.prog 70 1 1:=⟨CF7⟩
theorem CF6:fieldB Tryz.prog 70 2=some 2:=by kernel_rfl
instance:Fld Tryz.prog 70 2 2:=⟨CF6⟩
theorem CE2:(Tryz.prog.underlying 289).any (fun t=>match t with | .interface _=>false | _=>true)=true:=by kernel_rfl
theorem CE1:(Tryz.prog.underlying 291).any (fun t=>match t with | .interface _=>false | _=>true)=true:=by kernel_rfl
theorem BV5:placesB Tryz.prog 291=some [(0,1),(1,1)]:=by kernel_rfl
theorem CB5:slB Tryz.prog 74=some (5,1):=by kernel_rfl
instance:Slc Tryz.prog 74 5 1:=⟨CB5⟩
theorem CL3:Tryz.prog.underlying 74=some (.slice 5):=by kernel_rfl
theorem Db7:tyB Tryz.prog 289=some (false,1):=by kernel_rfl
instance:Tyc Tryz.prog 289 false 1:=⟨Db7⟩
theorem Dn2:tyB Tryz.prog 5=some (false,1):=by kernel_rfl
instance:Tyc Tryz.prog 5 false 1:=⟨Dn2⟩
theorem AE3:tyB Tryz.prog 9=some (false,1):=by kernel_rfl
instance:Tyc Tryz.prog 9 false 1:=⟨AE3⟩
theorem AW4:Tryz.prog.underlying 289=some (.string):=by kernel_rfl
theorem Db4:Tryz.prog.underlying 5=some (.int .u8):=by kernel_rfl
theorem An7:Tryz.prog.underlying 9=some (.string):=by kernel_rfl
theorem Cx4:zeroB Tryz.prog 291=some [.string ⟨#[]⟩,.string ⟨#[]⟩]:=by kernel_rfl
end Go.Proofs.YtnmkdiagbkkmaabGreatDoor
namespace Go.Hp
open Go Go.Eng Go.Pw1
def bytesV (l:Str):List (List Value):=l.map fun c=>[byteV c]
def strsV (l:List Str):List (List Value):=l.map fun s=>[.string (bs s)]
theorem Bf6 {α:Type} {f:α→Bool} {l:List α} {k:Nat} (hk:k < l.length):(l.take (k + 1)).countP f=(l.take k).countP f + if f l[k] then 1 else 0:=by
  rw [List.take_succ_eq_append_getElem hk,List.countP_append];simp [List.countP_cons]
structure BxA where
  bx:Bx
  q:Option Addr
  b:Nat
  o:Nat
  cap:Nat
def BxA.cells (x:BxA):List Value:=[.int .i64 x.bx.colour,.slice x.q x.bx.titles.length x.cap]
def Tn.cells (t:Tn):List Value:=[.int .i64 t.colour,.string (bs t.number),.string (bs t.text)]
def En.cells (t:En):List Value:=[.int .i64 t.colour,.string (bs t.number),.string (bs t.title)]
structure MxA where
  bxs:List BxA
  q:Option Addr
  b:Nat
  o:Nat
  cap:Nat
  cards:List Tn
  q2:Option Addr
  b2:Nat
  o2:Nat
  cap2:Nat
def MxA.cells (m:MxA):List Value:=[.slice m.q m.bxs.length m.cap,.slice m.q2 m.cards.length m.cap2]
def MxA.v (m:MxA):Value:=.agg m.cells.toArray
def MxA.pl (m:MxA):Mx:=⟨m.bxs.map (·.bx),m.cards⟩
def TOk (W:World) (x:BxA):Prop:=Sl W x.q x.b x.o 1 (strsV x.bx.titles)
structure MOk (W:World) (m:MxA):Prop where
  bx:Sl W m.q m.b m.o 2 (m.bxs.map BxA.cells)
  ti:∀ x∈m.bxs,TOk W x
  cd:Sl W m.q2 m.b2 m.o2 3 (m.cards.map Tn.cells)
theorem MOk.mono0 {W w:World} {m:MxA} {news:Blks} (h:MOk W m) (hm:Mem W [] news w):MOk w m :=
  ⟨h.bx.mono (by decide) hm (by simp),fun x hx=>(h.ti x hx).mono (by decide) hm (by simp),h.cd.mono (by decide) hm (by simp)⟩
end Go.Hp
namespace Go.Proofs.YtnmkdiagbkkmaabGreatDoor
open Go Go.Eng Go.Hp Go.Pw1

theorem AC9 (n lo hi:Int) (W:World):Calls Tryz.prog 142 #[.int .i64 n,.int .i64 lo,.int .i64 hi] W (Pure (.bool (within n lo hi)) W):=by
  refine Aa0 Tryz.func142 rfl rfl ?_;refine st ?_
  refine Ab3 (dj:=10) (dp:=14) 4 rfl (fun g10=>by
    have g10':=g10;try simp only [nH] at g10'
    refine sv ?_;exact zs g10
  ) (fun g10=>by
    have g10':=g10;try simp only [nH] at g10'
    iterate 3 refine Ab8 rfl rfl rfl ?_
    refine sv ?_;exact zs g10
  ) ?_
  refine su ?_;exact Aa4 (.r1 rfl (.tmp rfl)) (by first | rfl | simp)
theorem AR3 (c:UInt8) (W:World):Calls Tryz.prog 144 #[byteV c] W (Pure (.bool (letterX c)) W):=by
  refine Aa0 Tryz.func144 rfl rfl ?_;refine st ?_
  refine Ab3 (dj:=5) (dp:=8) 3 rfl (fun g5=>by
    have g5':=g5;try simp only [nH] at g5'
    refine sv ?_;exact zs g5
  ) (fun g5=>by
    have g5':=g5;try simp only [nH] at g5'
    refine Ab8 rfl rfl rfl ?_;refine Ab8 rfl rfl rfl ?_;refine sv ?_;exact zs g5
  ) ?_
  refine su ?_;exact Aa4 (.r1 rfl (.tmp rfl)) (by first | rfl | simp)
theorem BJ6 (c:UInt8) (W:World):Calls Tryz.prog 210 #[byteV c] W (Pure (.bool (digitX c)) W):=by
  refine Aa0 Tryz.func210 rfl rfl ?_;refine st ?_
  refine Ab3 (dj:=5) (dp:=8) 3 rfl (fun g5=>by
    have g5':=g5;try simp only [nH] at g5'
    refine sv ?_;exact zs g5
  ) (fun g5=>by
    have g5':=g5;try simp only [nH] at g5'
    refine Ab8 rfl rfl rfl ?_;refine Ab8 rfl rfl rfl ?_;refine sv ?_;exact zs g5
  ) ?_
  refine su ?_;exact Aa4 (.r1 rfl (.tmp rfl)) (by first | rfl | simp)
theorem BU0 (c:UInt8) (W:World):Calls Tryz.prog 208 #[byteV c] W (Pure (.bool (starX c)) W):=by
  refine Aa0 Tryz.func208 rfl rfl ?_;refine su ?_;exact Aa4 (.r1 rfl (.tmp rfl)) (by first | rfl | simp)
theorem BX8 (c:UInt8) (W:World):Calls Tryz.prog 209 #[byteV c] W (Pure (.bool (goodX c)) W):=by
  refine Aa0 Tryz.func209 rfl rfl ?_;refine st ?_;refine zc (zF rfl Cr4) (fun w hm=>AR3 _ w) ?_
  refine Ad4 (dj:=5) (dp:=8) 3 rfl (fun g5=>by
    have g5':=g5;try simp only [nH] at g5'
    refine st ?_;refine Ab7 (zF rfl CV9) rfl rfl rfl (fun w hm=>BJ6 _ w) ?_;refine sv ?_;exact zs g5
  ) (fun g5=>by
    have g5':=g5;try simp only [nH] at g5'
    refine Ab8 rfl rfl rfl ?_;refine Ab8 rfl rfl rfl ?_;refine sv ?_;exact zs g5
  ) ?_
  refine st ?_
  refine Ad4 (dj:=9) (dp:=12) 3 rfl (fun g9=>by
    have g9':=g9;try simp only [nH] at g9'
    refine sv ?_;exact zs g9
  ) (fun g9=>by
    have g9':=g9;try simp only [nH] at g9'
    refine Ab8 rfl rfl rfl ?_;refine Ab8 rfl rfl rfl ?_;refine sv ?_;exact zs g9
  ) ?_
  refine st ?_
  refine Ad4 (dj:=13) (dp:=16) 3 rfl (fun g13=>by
    have g13':=g13;try simp only [nH] at g13'
    refine sv ?_;exact zs g13
  ) (fun g13=>by
    have g13':=g13;try simp only [nH] at g13'
    refine Ab8 rfl rfl rfl ?_;refine Ab8 rfl rfl rfl ?_;refine sv ?_;exact zs g13
  ) ?_
  refine su ?_;exact Aa4 (.r1 rfl (.tmp rfl)) (by first | rfl | simp)
theorem AD5 (f:UInt8→Bool) (l:Str) (q:Option Addr) (b o cap:Nat) (fn:FuncId) (W:World) (hS:Sl W q b o 1 (bytesV l)) (hl:l.length≤100000000000) (he:Enters Tryz.prog fn)
    (hf:∀ c w,Calls Tryz.prog fn #[byteV c] w (Pure (.bool (f c)) w)) :
    Calls Tryz.prog 143 #[.slice q l.length cap,.func (.func fn) #[] #[]] W (Pure (.int .i64 ((l.countP f:Nat):Int)) W):=by
  refine Aa0 Tryz.func143 rfl rfl ?_;refine su ?_;refine Ae5 (l.length) (fun k q=>(9,.int .i64 (k:Int))::(4,.int .i64 (((l.take k).countP f:Nat):Int))::q) (fun _=>_) (fun _=>[]) (fun _=>True) trivial rfl (zE 9 rfl rfl (zE 4 rfl rfl (zS 0 rfl (zS 1 rfl (zS 7 rfl (zS 8 rfl (Sub.nil _))))))) .nil ?_;intro k kN kI;clear kI;refine st ?_;refine cn rfl ?_ ?_
  ·intro c0'
   have hk:k < l.length:=by omega
   have hcl:=List.countP_le_length (p:=f) (l:=l.take k);rw [List.length_take] at hcl;refine st ?_;refine lv (Aa8 rfl rfl CB5 (by omega) (by omega) (hS.ptrM hk)) ?_;refine lv (Ab0 rfl (fun w hm=>hS.loadM1 (by decide) hm (by simp) Dn2 hk (v:=byteV l[k]) rfl)) ?_;refine Ab7 (Ac5 rfl rfl he) rfl rfl rfl (fun w hm=>hf _ w) ?_;refine st ?_;refine cn rfl ?_ ?_
   ·intro c1'
    refine st ?_;refine lv (Val.add rfl rfl (IntWalk.i64_in _ ⟨by omega,by omega⟩)) ?_;refine lv (Val.add rfl rfl (IntWalk.i64_in _ ⟨by omega,by omega⟩)) ?_;exact Ad0 (by omega) trivial rfl (zE 9 rfl rfl (zE 4 rfl (by rw [Bf6 hk,c1'];simp) (zS 0 rfl (zS 1 rfl (zS 7 rfl (zS 8 rfl (Sub.nil _))))))) .nil
   intro c1';refine st ?_;refine lv (Val.add rfl rfl (IntWalk.i64_in _ ⟨by omega,by omega⟩)) ?_;exact Ad0 (by omega) trivial rfl (zE 9 rfl rfl (zE 4 rfl (by rw [Bf6 hk,c1'];simp) (zS 0 rfl (zS 1 rfl (zS 7 rfl (zS 8 rfl (Sub.nil _))))))) .nil
  intro c0';obtain rfl:k=l.length:=by omega
  simp only [List.take_length];refine RunC.exit ?_;refine su ?_;refine Ab1 ?_;refine su ?_;exact Aa4 (.r1 rfl (.tmp rfl)) (by first | rfl | simp)
end Go.Proofs.YtnmkdiagbkkmaabGreatDoor
namespace Go.Hp
open Go Go.Eng Go.Pw1
theorem Bq8 {w:World} {b e p:Nat} {l:Str} (h:w.heap[b]? = some (bytesO e (l.map byteV) p)):Sl w (some ⟨b,0,none⟩) b 0 1 (bytesV l):=by
  refine ⟨fun _=>rfl,fun x hx=>?_,fun i hi j hj=>?_⟩
  · obtain ⟨c,_,rfl⟩:=List.mem_map.1 hx;rfl
  · obtain rfl:j=0:=by omega
    have hi2:i < l.length:=by simpa [bytesV] using hi
    simp [World.cell?,h,bytesO,bytesV,hi2,List.getElem?_append_left,byteV]
theorem Bf8:∀ s:Str,Lib.indexByte s 42=match starAt s with | some i=>(i:Int) | none=>-1
  | []=>rfl
  | c::s=>by
    have ih:=Bf8 s;unfold Lib.indexByte starAt
    have hc:(c == 42)=decide (c.toNat=42):=by
      rw [Bool.eq_iff_iff];simp only [beq_iff_eq,decide_eq_true_eq];exact ⟨fun h=>by rw [h];rfl,fun h=>UInt8.toNat_inj.1 h⟩
    rw [hc]
    by_cases h:c.toNat=42
    · simp [h]
    · simp only [h,decide_false,Bool.false_eq_true,if_false,ih]
      cases starAt s with
      | none=>rfl
      | some i =>
        have h1:((i:Int) == -1)=false:=by simp
        simp [h1]
theorem Bt2:∀ {s:Str} {i:Nat},starAt s=some i→i < s.length
  | c::s,i,h=>by
    unfold starAt at h
    split at h
    · cases h;simp
    · cases hs:starAt s with
      | none=>rw [hs] at h;cases h
      | some j =>
        rw [hs] at h
        have:=Bt2 hs
        simp at h
        subst h;simpa using this
def pieceT (p:Str):TypeId:=if (starAt p).isSome then 291 else 289
def pieceP (p:Str):Value:=match starAt p with
  | some i=>.agg #[.string (bs (p.take i)),.string (bs (p.drop (i + 1)))]
  | none=>.string (bs p)
def pieceF (p:Str):FuncId:=if (starAt p).isSome then 269 else 268
def pieceV (p:Str):Value:=.iface (pieceT p) (pieceP p)
end Go.Hp
namespace Go.Proofs.YtnmkdiagbkkmaabGreatDoor
open Go Go.Eng Go.Hp Go.Pw1

theorem AM9 (s:Str) (hl:s.length≤1000000) (W:World):Calls Tryz.prog 148 #[.string (bs s)] W (Pure (.bool (pieceX s)) W):=by
  refine Aa0 Tryz.func148 rfl rfl ?_;refine st ?_;refine BC0 (NewX.bytes rfl An7 CL3 Db4) rfl rfl rfl (fun p7 _ b7=>?_)
  refine su ?_
  refine Ab3 (dj:=11) (dp:=18) 7 rfl (fun g11=>by
    have g11':=g11;try simp only [nH] at g11'
    refine st ?_;refine Ab7 (zF rfl BI3) rfl rfl rfl (fun w hm=>AD5 goodX s _ b7 0 _ 209 w (Bq8 (hm.at (.head _))) (by omega) CW0 BX8) ?_;refine st ?_;refine Ac7 (Al1 rfl CB5) rfl rfl rfl ?_;refine sv ?_;exact zs g11
  ) (fun g11=>by
    have g11':=g11;try simp only [nH] at g11'
    iterate 6 refine Ab8 rfl rfl rfl ?_
    refine sv ?_;exact zs g11
  ) ?_
  refine st ?_
  refine Ab3 (dj:=19) (dp:=24) 5 rfl (fun g19=>by
    have g19':=g19;try simp only [nH] at g19'
    refine st ?_;refine Ab7 (zF rfl BI3) rfl rfl rfl (fun w hm=>AD5 starX s _ b7 0 _ 208 w (Bq8 (hm.at (.head _))) (by omega) CW1 BU0) ?_;refine sv ?_;exact zs g19
  ) (fun g19=>by
    have g19':=g19;try simp only [nH] at g19'
    iterate 4 refine Ab8 rfl rfl rfl ?_
    refine sv ?_;exact zs g19
  ) ?_
  refine su ?_;exact Aa4 (.r1 rfl (.tmp rfl)) (by simp only [pieceX];refine congrArg Value.bool ?_;refine Bool.eq_iff_iff.2 ?_;simp only [Bool.and_eq_true,decide_eq_true_eq];omega)
theorem Be2 (s:Str) (hl:s.length≤1000000) (W:World):Calls Tryz.prog 141 #[.string (bs s)] W (Pure (.bool (badTitle s)) W):=by
  refine Aa0 Tryz.func141 rfl rfl ?_;refine st ?_;refine lv (Ah0 rfl An7) ?_;refine zc (zF rfl BI4) (fun w hm=>AC9 _ _ _ w) ?_
  refine Ad4 (dj:=7) (dp:=14) 7 rfl (fun g7=>by
    have g7':=g7;try simp only [nH] at g7'
    refine st ?_;refine BC0 (NewX.bytes rfl An7 CL3 Db4) rfl rfl rfl (fun p9 _ b9=>?_)
    refine zc (zF rfl BI3) (fun w hm=>AD5 letterX s _ b9 0 _ 144 w (Bq8 (hm.at (.head _))) (by omega) Cr4 AR3) ?_;refine Ac7 (Ah0 rfl An7) rfl rfl rfl ?_;refine sv ?_;exact Af8 (Sub.cons rfl (Sub.skip rfl (Sub.skip rfl (Sub.skip rfl (Sub.skip rfl (Sub.skip rfl (Sub.skip rfl (Sub.skip rfl (Ah3 rfl (by rw [g7]) (Ac1 _)))))))))) (.cons _ (List.Sublist.refl _))
  ) (fun g7=>by
    have g7':=g7;try simp only [nH] at g7'
    iterate 6 refine Ab8 rfl rfl rfl ?_
    refine sv ?_;exact zs g7
  ) ?_
  refine su ?_;exact Aa4 (.r1 rfl (.tmp rfl)) (by simp only [badTitle];refine congrArg Value.bool ?_;refine Bool.eq_iff_iff.2 ?_;simp only [Bool.or_eq_true,decide_eq_true_eq,Int.ofNat_lt])
theorem Br1 (t:Tn) (h:t.number.length≤1000000∧t.text.length≤1000000) (W:World):Calls Tryz.prog 147 #[.agg t.cells.toArray] W (Pure (.bool (badCard t)) W):=by
  refine Aa0 Tryz.func147 rfl rfl ?_;refine st ?_;refine zn (New.box rfl) (fun b1=>?_)
  refine zc (zF rfl BI4) (fun w hm=>AC9 _ _ _ w) ?_
  refine Ad4 (dj:=7) (dp:=12) 5 rfl (fun g7=>by
    have g7':=g7;try simp only [nH] at g7'
    refine su ?_;refine Ab7 (zF rfl Cr3) rfl rfl rfl (fun w hm=>AM9 t.number h.1 w) ?_;refine sv ?_;exact zs g7
  ) (fun g7=>by
    have g7':=g7;try simp only [nH] at g7'
    iterate 4 refine Ab8 rfl rfl rfl ?_
    refine sv ?_;exact zs g7
  ) ?_
  refine st ?_
  refine Ad4 (dj:=13) (dp:=18) 5 rfl (fun g13=>by
    have g13':=g13;try simp only [nH] at g13'
    refine su ?_;refine Ab7 (zF rfl Cr3) rfl rfl rfl (fun w hm=>AM9 t.text h.2 w) ?_;refine sv ?_;exact zs g13
  ) (fun g13=>by
    have g13':=g13;try simp only [nH] at g13'
    iterate 4 refine Ab8 rfl rfl rfl ?_
    refine sv ?_;exact zs g13
  ) ?_
  refine su ?_;exact Aa4 (.r1 rfl (.tmp rfl)) (by first | rfl | simp)
theorem AB7 (p s:Str) (hp:p.length≤1000000) (hs:s.length≤1000000) (W:World):Calls Tryz.prog 268 #[.string (bs p),.string (bs s)] W (Pure (.bool (suitsW p s)) W):=by
  refine Aa0 Tryz.func268 rfl rfl ?_;refine st ?_;refine lv (Ah0 rfl AW4) ?_;refine lv (Ah0 rfl An7) ?_;refine cn rfl ?_ ?_
  ·intro c0'
   have hne:p.length ≠ s.length:=by omega
   refine su ?_;exact Aa4 (.r1 rfl (.tmp rfl)) (by rw [Bf7 hne])
  intro c0';have heq:p.length=s.length:=by omega
  refine st ?_;refine lv (Ah0 rfl An7) ?_;refine Ae5 (s.length) (fun k q=>(13,.int .i64 (k:Int))::q) (fun _=>_) (fun _=>[]) (fun k=>∀ j (h:j < k) (h1:j < p.length) (h2:j < s.length),p[j].toNat=63∨p[j]=s[j]) (fun j h=>absurd h (by omega)) rfl (zE 13 rfl rfl (zS 0 rfl (zS 1 rfl (zS 11 rfl (zS 12 rfl (Sub.nil _)))))) .nil ?_;intro k kN kI;refine st ?_;refine cn rfl ?_ ?_
  ·intro c1'
   have hk:k < s.length:=by omega
   have hk2:k < p.length:=by omega
   obtain ⟨x,hx⟩:∃ x,p[k]=x:=⟨_,rfl⟩;obtain ⟨y,hy⟩:∃ y,s[k]=y:=⟨_,rfl⟩;have hx2:p[(k:Int).toNat]? = some x:=by simp [hk2,hx]
   have hy2:s[(k:Int).toNat]? = some y:=by simp [hk,hy]
   refine RunC.skip ?_;refine RunE.next ?_;refine RunC.seq ?_;refine RunC.block ?_;refine csr ?_;refine vp rfl rfl rfl rfl ?_;refine vp rfl rfl rfl rfl ?_;refine nnx ?_;refine RunC.seq ?_
   apply Al3 (J:=J0 _ _ _ _ _ _) 11 Aj3 .nil
   ·refine va 0 rfl (Aa3 rfl) rfl rfl rfl .nil rfl ?_
    refine va 1 rfl (Aa3 rfl) rfl rfl rfl .nil rfl ?_;refine va 2 rfl (Az0 rfl rfl AW4 (by omega) hx2) rfl rfl rfl .nil rfl ?_;refine va 3 rfl (Aa3 rfl) rfl rfl rfl .nil rfl ?_;refine va 4 rfl (Aa3 rfl) rfl rfl rfl .nil rfl ?_;refine Ap5 (dj:=20) rfl ?_ ?_
    ·intro g20
     have g20':=g20;clear g20;try simp only [nH] at g20'
     refine va 5 rfl (Aa3 rfl) rfl rfl rfl .nil rfl ?_;refine va 6 rfl (Aa3 rfl) rfl rfl rfl .nil rfl ?_;refine va 7 rfl (Az0 rfl rfl AW4 (by omega) hx2) rfl rfl rfl .nil rfl ?_;refine va 8 rfl (Aa3 rfl) rfl rfl rfl .nil rfl ?_;refine va 9 rfl (Aa3 rfl) rfl rfl rfl .nil rfl ?_;refine va 10 rfl (Az0 rfl rfl An7 (by omega) hy2) rfl rfl rfl .nil rfl ?_;refine zt ?_;refine zp 11 ?_;refine zp 12 ?_;refine zd ?_;exact Av9  (zE 28 (v:=.bool (!(decide ((x.toNat:Int)=63) || decide ((x.toNat:Int)=(y.toNat:Int))))) rfl (by first | rfl | (refine congrArg Value.bool (Bool.eq_iff_iff.2 ?_);simp only [Bool.or_eq_true,Bool.and_eq_true,Bool.not_eq_true',Bool.or_eq_false_iff,Bool.and_eq_false_iff,Bool.not_eq_false',decide_eq_true_eq,decide_eq_false_iff_not,Bool.false_eq_true,true_iff,false_iff,iff_true,iff_false,and_true,true_and,Bool.and_true,Bool.true_and];omega)) (Sub.skip rfl (Sub.skip rfl (Sub.skip rfl (Sub.skip rfl (Sub.skip rfl (Sub.skip rfl (Sub.skip rfl (Sub.skip rfl (Sub.skip rfl (Sub.skip rfl (Sub.skip rfl (Sub.skip rfl (Sub.skip rfl (Sub.skip rfl (Ac1 _)))))))))))))))) (Pick.refl _)
    intro g20;have g20':=g20;clear g20;try simp only [nH] at g20'
    refine An3 (i:=5) rfl (by kernel_rfl) (by kernel_rfl) rfl rfl rfl (fun _ _ _ h=>h) .nil rfl ?_;refine An3 (i:=6) rfl (by kernel_rfl) (by kernel_rfl) rfl rfl rfl (fun _ _ _ h=>h) .nil rfl ?_;refine An3 (i:=7) rfl (by kernel_rfl) (by kernel_rfl) rfl rfl rfl (fun _ _ _ h=>h) .nil rfl ?_;refine An3 (i:=8) rfl (by kernel_rfl) (by kernel_rfl) rfl rfl rfl (fun _ _ _ h=>h) .nil rfl ?_;refine An3 (i:=9) rfl (by kernel_rfl) (by kernel_rfl) rfl rfl rfl (fun _ _ _ h=>h) .nil rfl ?_;refine An3 (i:=10) rfl (by kernel_rfl) (by kernel_rfl) rfl rfl rfl (fun _ _ _ h=>h) .nil rfl ?_;refine zt ?_;refine zB 11 ?_;refine Ao3 rfl rfl rfl rfl (Ab9 ?_)
    refine zp 12 ?_;refine zd ?_;exact Av9  (zE 28 (v:=.bool (!(decide ((x.toNat:Int)=63) || decide ((x.toNat:Int)=(y.toNat:Int))))) rfl (by first | rfl | (refine congrArg Value.bool (Bool.eq_iff_iff.2 ?_);simp only [Bool.or_eq_true,Bool.and_eq_true,Bool.not_eq_true',Bool.or_eq_false_iff,Bool.and_eq_false_iff,Bool.not_eq_false',decide_eq_true_eq,decide_eq_false_iff_not,Bool.false_eq_true,true_iff,false_iff,iff_true,iff_false,and_true,true_and,Bool.and_true,Bool.true_and];omega)) (Sub.skip rfl (Sub.skip rfl (Sub.skip rfl (Sub.skip rfl (Sub.skip rfl (Sub.skip rfl (Sub.skip rfl (Sub.skip rfl (Sub.skip rfl (Sub.skip rfl (Sub.skip rfl (Sub.skip rfl (Sub.skip rfl (Sub.skip rfl (Ac1 _)))))))))))))))) .nil
   refine J0.out ?_;refine st ?_;refine cn rfl ?_ ?_
   ·intro c2'
    have hN:suitsW p s=false:=by (rw [Bool.eq_false_iff];intro h;have h3:=(AO7.1 h).2 k hk2 hk;rw [hx,hy] at h3;rcases h3 with h3 | h3;omega;(have h4:=congrArg UInt8.toNat h3;omega))
    refine su ?_;exact Aa4 (.r1 rfl (.tmp rfl)) (by rw [hN])
   intro c2';have hJ:p[k].toNat=63∨p[k]=s[k]:=by (rw [hx,hy];rcases c2' with h | h;(left;omega);(right;exact UInt8.toNat_inj.1 (by omega)))
   refine st ?_;refine lv (Val.add rfl rfl (IntWalk.i64_in _ ⟨by omega,by omega⟩)) ?_;exact Ad0 (by omega) (fun j h h1 h2=>by (rcases Nat.lt_or_ge j k with h4 | h4;exact kI j h4 h1 h2;have e:j=k:=(by omega);subst e;exact hJ)) rfl (zE 13 rfl rfl (zS 0 rfl (zS 1 rfl (zS 11 rfl (zS 12 rfl (Sub.nil _)))))) .nil
  intro c1';obtain rfl:k=s.length:=by omega
  refine RunC.exit ?_;refine su ?_;refine Ab1 ?_;refine su ?_;exact Aa4 (.r1 rfl (.tmp rfl)) (by rw [AO7.2 ⟨heq,fun j h1 h2=>kI j h2 h1 h2⟩])
theorem BY2 (h t s:Str) (hh:h.length≤1000000) (ht:t.length≤1000000) (hs:s.length≤1000000) (W:World):Calls Tryz.prog 269 #[.agg #[.string (bs h),.string (bs t)],.string (bs s)] W (Pure (.bool (suitsE h t s)) W):=by
  refine Aa0 Tryz.func269 rfl rfl ?_;refine st ?_;refine zn (New.box rfl) (fun b2=>?_)
  refine Ac4 7 Aj3 (.cons .here rfl .nil) ?_;refine zw 0 ?_;refine zw 1 ?_;refine zv 2 rfl (Ah0 rfl AW4) ?_;refine zw 3 ?_;refine zw 4 ?_;refine zv 5 rfl (Ah0 rfl AW4) ?_;refine zw 6 ?_;refine zt ?_;refine zp 7 ?_;refine zd ?_;refine RunE.next ?_;refine RunC.seq ?_;refine Cw3 (zS 1 rfl (zS 2 rfl (zS 5 rfl (zS 6 rfl (Sub.nil _))))) (.cons .here rfl .nil) ?_
  apply Al3 (J:=J0 _ _ _ _ _ _) 23 Aj3 (.cons .here rfl .nil)
  ·refine zw 0 ?_
   refine zw 1 ?_;refine zv 2 rfl (Val.add rfl rfl (IntWalk.i64_in _ ⟨by omega,by omega⟩)) ?_;refine zw 3 ?_;refine zv 4 rfl (Ah0 rfl An7) ?_;refine zw 5 ?_;refine zw 6 ?_;refine Ap5 (dj:=19) rfl ?_ ?_
   ·intro g19
    have g19':=g19;clear g19;try simp only [nH] at g19'
    refine zw 7 ?_;refine zw 8 ?_;refine zw 9 ?_;refine zw 10 ?_;refine zv 11 rfl (Bc3 rfl rfl An7 (by omega)) ?_;refine zA 12 ?_;refine Ab5 rfl (zF rfl Bo9) rfl rfl rfl (fun w hm=>AB7 h _ hh (by simp;omega) w) (Aa7 (.cons .here rfl .nil) (.cons .here rfl .nil) rfl ?_)
    refine zw 13 ?_;refine zw 14 ?_;refine Ap5 (dj:=27) rfl ?_ ?_
    ·intro g27
     have g27':=g27;clear g27;try simp only [nH] at g27'
     refine zw 15 ?_;refine zw 16 ?_;refine zw 17 ?_;refine zw 18 ?_;refine zv 19 rfl (Ah0 rfl An7) ?_;refine zw 20 ?_;refine zv 21 rfl (Ae9 rfl rfl (IntWalk.i64_in _ ⟨by omega,by omega⟩)) ?_;refine zv 22 rfl (AD9 (a:=s.length - t.length) rfl (by show some (Value.int _ _)=some (Value.int _ _);congr 2;first | omega | (exfalso;simp at g27')) An7 (by omega)) ?_;refine zt ?_;refine zq 23 rfl (zF rfl Bo9) (fun w hm=>AB7 t _ ht (by simp;omega) w) ?_;refine zp 24 ?_;refine zp 25 ?_;refine zd ?_;exact Av9  (zE 4 (v:=.bool (suitsE h t s)) rfl (by simp_all [suitsE] <;> (intros;omega)) (Sub.skip rfl (Sub.skip rfl (Sub.skip rfl (Sub.skip rfl (Sub.skip rfl (Sub.skip rfl (Sub.skip rfl (Sub.skip rfl (Sub.skip rfl (Sub.skip rfl (Sub.skip rfl (Sub.skip rfl (Sub.skip rfl (Sub.skip rfl (Sub.skip rfl (Sub.skip rfl (Sub.skip rfl (Sub.skip rfl (Sub.skip rfl (Sub.skip rfl (Sub.skip rfl (Sub.skip rfl (Sub.skip rfl (Sub.skip rfl (Sub.skip rfl (Sub.skip rfl (Sub.skip rfl (Sub.skip rfl (Ac1 _)))))))))))))))))))))))))))))) (Pick.refl _)
    intro g27;have g27':=g27;clear g27;try simp only [nH] at g27'
    refine zN 15 ?_;refine zN 16 ?_;refine zN 17 ?_;refine zN 18 ?_;refine zN 19 ?_;refine zN 20 ?_;refine zN 21 ?_;refine zN 22 ?_;refine zt ?_;refine zB 23 ?_;refine Ao3 rfl rfl rfl rfl (Ab9 ?_)
    refine zp 24 ?_;refine zp 25 ?_;refine zd ?_;exact Av9  (zE 4 (v:=.bool (suitsE h t s)) rfl (by simp_all [suitsE] <;> (intros;omega)) (Sub.skip rfl (Sub.skip rfl (Sub.skip rfl (Sub.skip rfl (Sub.skip rfl (Sub.skip rfl (Sub.skip rfl (Sub.skip rfl (Sub.skip rfl (Sub.skip rfl (Sub.skip rfl (Sub.skip rfl (Sub.skip rfl (Sub.skip rfl (Sub.skip rfl (Sub.skip rfl (Sub.skip rfl (Sub.skip rfl (Sub.skip rfl (Sub.skip rfl (Sub.skip rfl (Sub.skip rfl (Sub.skip rfl (Sub.skip rfl (Sub.skip rfl (Sub.skip rfl (Sub.skip rfl (Sub.skip rfl (Ac1 _)))))))))))))))))))))))))))))) (.cons .here rfl .nil)
   intro g19;have g19':=g19;clear g19;try simp only [nH] at g19'
   refine zN 7 ?_;refine zN 8 ?_;refine zN 9 ?_;refine zN 10 ?_;refine zN 11 ?_;refine zA 12 ?_;refine Ao3 rfl rfl rfl rfl (Aa7 (.cons .here rfl .nil) (.cons .here rfl .nil) rfl ?_)
   refine zw 13 ?_;refine zw 14 ?_;refine Ap5 (dj:=27) rfl ?_ ?_
   ·intro g27
    have g27':=g27;clear g27;try simp only [nH] at g27'
    refine zw 15 ?_;refine zw 16 ?_;refine zw 17 ?_;refine zw 18 ?_;refine zv 19 rfl (Ah0 rfl An7) ?_;refine zw 20 ?_;refine zv 21 rfl (Ae9 rfl rfl (IntWalk.i64_in _ ⟨by omega,by omega⟩)) ?_;refine zv 22 rfl (AD9 (a:=s.length - t.length) rfl (by show some (Value.int _ _)=some (Value.int _ _);congr 2;first | omega | (exfalso;simp at g27')) An7 (by omega)) ?_;refine zt ?_;refine zq 23 rfl (zF rfl Bo9) (fun w hm=>AB7 t _ ht (by simp;omega) w) ?_;refine zp 24 ?_;refine zp 25 ?_;refine zd ?_;exact Av9  (zE 4 (v:=.bool (suitsE h t s)) rfl (by simp_all [suitsE] <;> (intros;omega)) (Sub.skip rfl (Sub.skip rfl (Sub.skip rfl (Sub.skip rfl (Sub.skip rfl (Sub.skip rfl (Sub.skip rfl (Sub.skip rfl (Sub.skip rfl (Sub.skip rfl (Sub.skip rfl (Sub.skip rfl (Sub.skip rfl (Sub.skip rfl (Sub.skip rfl (Sub.skip rfl (Sub.skip rfl (Sub.skip rfl (Sub.skip rfl (Sub.skip rfl (Sub.skip rfl (Sub.skip rfl (Sub.skip rfl (Sub.skip rfl (Sub.skip rfl (Sub.skip rfl (Sub.skip rfl (Sub.skip rfl (Ac1 _)))))))))))))))))))))))))))))) (.cons .here rfl .nil)
   intro g27;have g27':=g27;clear g27;try simp only [nH] at g27'
   refine zN 15 ?_;refine zN 16 ?_;refine zN 17 ?_;refine zN 18 ?_;refine zN 19 ?_;refine zN 20 ?_;refine zN 21 ?_;refine zN 22 ?_;refine zt ?_;refine zB 23 ?_;refine Ao3 rfl rfl rfl rfl (Ab9 ?_)
   refine zp 24 ?_;refine zp 25 ?_;refine zd ?_;exact Av9  (zE 4 (v:=.bool (suitsE h t s)) rfl (by simp_all [suitsE] <;> (intros;omega)) (Sub.skip rfl (Sub.skip rfl (Sub.skip rfl (Sub.skip rfl (Sub.skip rfl (Sub.skip rfl (Sub.skip rfl (Sub.skip rfl (Sub.skip rfl (Sub.skip rfl (Sub.skip rfl (Sub.skip rfl (Sub.skip rfl (Sub.skip rfl (Sub.skip rfl (Sub.skip rfl (Sub.skip rfl (Sub.skip rfl (Sub.skip rfl (Sub.skip rfl (Sub.skip rfl (Sub.skip rfl (Sub.skip rfl (Sub.skip rfl (Sub.skip rfl (Sub.skip rfl (Sub.skip rfl (Sub.skip rfl (Ac1 _)))))))))))))))))))))))))))))) (.cons .here rfl .nil)
  refine J0.out ?_;refine su ?_;exact Aa4 (.r1 rfl (.tmp rfl)) (by first | rfl | simp)
theorem AZ9 (s:Str) (W:World):Calls Tryz.prog 133 #[.string (bs s),.int .u8 42] W (Pure (.int .i64 (Lib.indexByte s 42)) W):=by
  refine Aa0 Tryz.func133 rfl rfl ?_;refine st ?_;refine lu (Cv6 Tryz.func200 (by kernel_rfl) (by kernel_rfl) (by kernel_rfl) (e:=Extern.BytealgIndexByte.indexByte) (by kernel_rfl) rfl (fun w=>Lib.run_indexByteString (bs s) 42 w)) ?_;exact Aa4 (.r1 rfl (.tmp rfl)) (by first | rfl | simp)
theorem AZ7 (s:Str) (W:World):Calls Tryz.prog 90 #[.string (bs s),.string (bs [42])] W (Pure (.int .i64 (Lib.indexByte s 42)) W):=by
  refine Aa0 Tryz.func90 rfl rfl ?_;refine csr ?_;refine vp rfl rfl rfl rfl ?_;refine nsr ?_;refine vp rfl rfl rfl rfl ?_;refine Ac7 (Ah0 rfl An7) rfl rfl rfl ?_;refine vp rfl rfl rfl rfl ?_;refine nnx ?_;refine RunC.seq ?_;refine RunC.block ?_;refine csr ?_
  iterate 3 refine vp rfl rfl rfl rfl ?_
  refine Ad4 (dj:=19) (dp:=23) 4 rfl (fun g19=>by
    have g19':=g19;try simp only [nH] at g19'
    refine vp rfl rfl rfl rfl ?_;refine vp rfl rfl rfl rfl ?_;refine Ac7 (Av7 rfl rfl) rfl rfl rfl ?_;refine vp rfl rfl rfl rfl ?_;exact Af8 (Sub.cons rfl (Sub.skip rfl (Sub.skip rfl (Sub.skip rfl (Sub.skip rfl (Ah3 rfl (by rw [g19]) (Ac1 _))))))) (List.Sublist.refl _)
  ) (fun g19=>by
    have g19':=g19;try simp only [nH] at g19'
    iterate 3 refine Ab8 rfl rfl rfl ?_
    refine vp rfl rfl rfl rfl ?_;exact Af8 (Sub.cons rfl (Sub.skip rfl (Sub.skip rfl (Sub.skip rfl (Sub.skip rfl (Ah3 rfl (by rw [g19]) (Ac1 _))))))) (List.Sublist.refl _)
  ) ?_
  refine vp rfl rfl rfl rfl ?_;refine nnx ?_;refine RunC.cond rfl ?_ ?_
  ·intro c0
   have c0':=c0;clear c0;try simp only [nH] at c0'
   refine csr ?_;refine vp rfl rfl rfl rfl ?_;refine nnx ?_;refine RunC.ret ?_;refine Ad3 ?_;refine Ad2 ?_;exact Aa4 (.r1 rfl (.tmp rfl)) (by rcases c0' with h | h;(simp at h);(subst h;rfl))
  intro c0;have c0':=c0;clear c0;try simp only [nH] at c0'
  refine csr ?_
  iterate 3 refine vp rfl rfl rfl rfl ?_
  refine nnx ?_;refine RunC.cond rfl ?_ (fun h=>absurd h (by simp))
  intro c1;clear c1;refine csr ?_;refine vp rfl rfl rfl rfl ?_;refine vp rfl rfl rfl rfl ?_;refine Ac7 (Az0 rfl rfl An7 (by decide) (c:=42) rfl) rfl rfl rfl ?_;refine Ab7 (Aq2 rfl CY8) rfl rfl rfl (fun w hm=>AZ9 s w) ?_;refine vp rfl rfl rfl rfl ?_;refine nnx ?_;refine RunC.ret ?_;refine Ad3 ?_;refine Ad2 ?_;exact Aa4 (.r1 rfl (.tmp rfl)) (by first | rfl | simp)
theorem Ct4 (s:Str) (hl:s.length≤1000000) (W:World):Calls Tryz.prog 41 #[.string (bs s),.string (bs [42])] W (Pure (match starAt s with | some i=>.tuple #[.string (bs (s.take i)),.string (bs (s.drop (i + 1))),.bool true] | none=>.tuple #[.string (bs s),.string (bs []),.bool false]) W):=by
  have hi:=Bf8 s
  cases h:starAt s with
  | some i =>
    rw [h] at hi;simp only at hi
    have hlt:=Bt2 h;refine Aa0 Tryz.func41 rfl rfl ?_;refine st ?_;refine zc (zF rfl CM5) (fun w hm=>(by have h9:=AZ7 s w;rw [hi] at h9;exact h9)) ?_;refine RunC.cond rfl ?_ (fun h=>absurd h (by simp))
    intro c0;clear c0;refine st ?_;refine Ac4 10 Aj3 .nil ?_;refine va 0 rfl (Aa3 rfl) rfl rfl rfl .nil rfl ?_;refine va 1 rfl (Aa3 rfl) rfl rfl rfl .nil rfl ?_;refine va 2 rfl (Bc3 rfl rfl An7 (by omega)) rfl rfl rfl .nil rfl ?_;refine va 3 rfl (Aa3 rfl) rfl rfl rfl .nil rfl ?_;refine va 4 rfl (Aa3 rfl) rfl rfl rfl .nil rfl ?_;refine va 5 rfl (Aa3 rfl) rfl rfl rfl .nil rfl ?_;refine va 6 rfl (Ah0 rfl An7) rfl rfl rfl .nil rfl ?_;refine va 7 rfl (Ah1 (a:=i) (b:=1) (i + 1) rfl rfl rfl (Ap3 (by omega))) rfl rfl rfl .nil rfl ?_;refine va 8 rfl (AD9 rfl rfl An7 (by omega)) rfl rfl rfl .nil rfl ?_;refine va 9 rfl (Aa3 rfl) rfl rfl rfl .nil rfl ?_;refine zt ?_;refine zp 10 ?_;refine zp 11 ?_;refine zd ?_;refine su ?_;exact Aa4 (.r3 rfl (.tmp rfl) (.tmp rfl) (.tmp rfl)) (by first | rfl | simp)
  | none =>
    rw [h] at hi;simp only at hi
    refine Aa0 Tryz.func41 rfl rfl ?_;refine st ?_;refine zc (zF rfl CM5) (fun w hm=>(by have h9:=AZ7 s w;rw [hi] at h9;exact h9)) ?_;refine RunC.cond rfl (fun h=>absurd h (by simp)) ?_;intro c0;clear c0;refine su ?_;exact Aa4 (.r3 rfl (.tmp rfl) (.tmp rfl) (.tmp rfl)) (by first | rfl | simp)
theorem BZ4 (s:Str) (hl:s.length≤1000000) (W:World):Calls Tryz.prog 14 #[.string (bs s),.string (bs [42])] W (Pure (match starAt s with | some i=>.tuple #[.string (bs (s.take i)),.string (bs (s.drop (i + 1))),.bool true] | none=>.tuple #[.string (bs s),.string (bs []),.bool false]) W):=by
  have hc:=fun w=>Ct4 s hl w
  cases h:starAt s with
  | some i =>
    simp only [h] at hc;refine Aa0 Tryz.func14 rfl rfl ?_;refine st ?_;refine zc (zF rfl CN0) (fun w hm=>hc w) ?_;exact Aa4 (.r3 rfl (.tmp rfl) (.tmp rfl) (.tmp rfl)) (by first | rfl | simp)
  | none =>
    simp only [h] at hc;refine Aa0 Tryz.func14 rfl rfl ?_;refine st ?_;refine zc (zF rfl CN0) (fun w hm=>hc w) ?_;exact Aa4 (.r3 rfl (.tmp rfl) (.tmp rfl) (.tmp rfl)) (by first | rfl | simp)
theorem Ao9 (s:Str) (hl:s.length≤1000000) (W:World):Calls Tryz.prog 151 #[.string (bs s)] W (Pure (pieceV s) W):=by
  have hc:=fun w=>BZ4 s hl w
  cases h:starAt s with
  | some i =>
    simp only [h] at hc;refine Aa0 Tryz.func151 rfl rfl ?_;refine st ?_;refine zc (zF rfl CN6) (fun w hm=>hc w) ?_;refine RunC.cond rfl ?_ (fun h=>absurd h (by simp))
    intro c0;clear c0;refine st ?_;refine lv (Val.build (parts:=[(0,.tmp 13),(1,.tmp 14)]) rfl Cx4 BV5 rfl) ?_;refine lu (Val.makeInterface rfl CE1) ?_;exact Aa4 (.r1 rfl (.tmp rfl)) (by simp [pieceV,pieceT,pieceP,h])
  | none =>
    simp only [h] at hc;refine Aa0 Tryz.func151 rfl rfl ?_;refine st ?_;refine zc (zF rfl CN6) (fun w hm=>hc w) ?_;refine RunC.cond rfl (fun h=>absurd h (by simp)) ?_;intro c0;clear c0;refine st ?_;refine lu (Val.makeInterface rfl CE2) ?_;exact Aa4 (.r1 rfl (.tmp rfl)) (by simp [pieceV,pieceT,pieceP,h])
end Go.Proofs.YtnmkdiagbkkmaabGreatDoor
namespace Go.Proofs.YtnmkdiagbkkmaabGreatDoor
open Go Go.Eng
theorem Dl1:apB Tryz.prog 117=some (165,3,40):=by kernel_rfl
theorem CO3:apB Tryz.prog 118=some (116,1,8):=by kernel_rfl
theorem BR7:arrNB Tryz.prog 228=some (2,2):=by kernel_rfl
theorem CY7:Enters Tryz.prog 137:=Aa1 Tryz.func137 (by kernel_rfl) rfl
theorem CY6:Enters Tryz.prog 141:=Aa1 Tryz.func141 (by kernel_rfl) rfl
theorem CY5:Enters Tryz.prog 145:=Aa1 Tryz.func145 (by kernel_rfl) rfl
theorem CY4:Enters Tryz.prog 146:=Aa1 Tryz.func146 (by kernel_rfl) rfl
theorem CY3:Enters Tryz.prog 147:=Aa1 Tryz.func147 (by kernel_rfl) rfl
theorem CY2:Enters Tryz.prog 149:=Aa1 Tryz.func149 (by kernel_rfl) rfl
theorem By9:Enters Tryz.prog 15:=Aa1 Tryz.func15 (by kernel_rfl) rfl
theorem Cr2:Enters Tryz.prog 150:=Aa1 Tryz.func150 (by kernel_rfl) rfl
theorem Ba8:Enters Tryz.prog 151:=Aa1 Tryz.func151 (by kernel_rfl) rfl
theorem CY1:Enters Tryz.prog 152:=Aa1 Tryz.func152 (by kernel_rfl) rfl
theorem CY0:Enters Tryz.prog 153:=Aa1 Tryz.func153 (by kernel_rfl) rfl
theorem CW2:Enters Tryz.prog 207:=Aa1 Tryz.func207 (by kernel_rfl) rfl
theorem CV8:Enters Tryz.prog 211:=Aa1 Tryz.func211 (by kernel_rfl) rfl
theorem CV7:Enters Tryz.prog 212:=Aa1 Tryz.func212 (by kernel_rfl) rfl
theorem CU1:Enters Tryz.prog 269:=Aa1 Tryz.func269 (by kernel_rfl) rfl
theorem Di6:Enters Tryz.prog 42:=Aa1 Tryz.func42 (by kernel_rfl) rfl
theorem Cp6:Enters Tryz.prog 88:=Aa1 Tryz.func88 (by kernel_rfl) rfl
theorem Df5:Enters Tryz.prog 91:=Aa1 Tryz.func91 (by kernel_rfl) rfl
theorem CM4:Enters Tryz.prog 92:=Aa1 Tryz.func92 (by kernel_rfl) rfl
theorem Df4:Enters Tryz.prog 93:=Aa1 Tryz.func93 (by kernel_rfl) rfl
theorem Bx9:fieldB Tryz.prog 121 1=some 2:=by kernel_rfl
instance:Fld Tryz.prog 121 1 2:=⟨Bx9⟩
theorem Bx8:fieldB Tryz.prog 121 2=some 3:=by kernel_rfl
instance:Fld Tryz.prog 121 2 3:=⟨Bx8⟩
theorem Bx7:fieldB Tryz.prog 165 0=some 0:=by kernel_rfl
instance:Fld Tryz.prog 165 0 0:=⟨Bx7⟩
theorem Co9:fieldB Tryz.prog 165 1=some 1:=by kernel_rfl
instance:Fld Tryz.prog 165 1 1:=⟨Co9⟩
theorem Co8:fieldB Tryz.prog 165 2=some 2:=by kernel_rfl
instance:Fld Tryz.prog 165 2 2:=⟨Co8⟩
theorem Co6:fieldB Tryz.prog 227 0=some 0:=by kernel_rfl
instance:Fld Tryz.prog 227 0 0:=⟨Co6⟩
theorem Co5:fieldB Tryz.prog 227 1=some 1:=by kernel_rfl
instance:Fld Tryz.prog 227 1 1:=⟨Co5⟩
theorem Bo4:fieldB Tryz.prog 41 0=some 0:=by kernel_rfl
instance:Fld Tryz.prog 41 0 0:=⟨Bo4⟩
theorem AI3:fieldB Tryz.prog 41 1=some 1:=by kernel_rfl
instance:Fld Tryz.prog 41 1 1:=⟨AI3⟩
theorem CF9:fieldB Tryz.prog 68 0=some 0:=by kernel_rfl
instance:Fld Tryz.prog 68 0 0:=⟨CF9⟩
theorem CF8:fieldB Tryz.prog 68 1=some 1:=by kernel_rfl
instance:Fld Tryz.prog 68 1 1:=⟨CF8⟩
theorem Ak6 (v:Value) (w:World):(method (Tryz.prog.types.size + Made.depth) 289 v "pairworks/heap.suits").run Tryz.prog w = .ok (268,v) w:=by kernel_rfl
theorem Ak5 (v:Value) (w:World):(method (Tryz.prog.types.size + Made.depth) 291 v "pairworks/heap.suits").run Tryz.prog w = .ok (269,v) w:=by kernel_rfl
theorem AP2:placesB Tryz.prog 121=some [(0,2),(2,1),(3,1),(4,1)]:=by kernel_rfl
theorem BV8:placesB Tryz.prog 165=some [(0,1),(1,1),(2,1)]:=by kernel_rfl
theorem AA7:placesB Tryz.prog 227=some [(0,1),(1,1)]:=by kernel_rfl
theorem AP1:placesB Tryz.prog 228=some [(0,2),(2,2)]:=by kernel_rfl
theorem Cf8:slB Tryz.prog 117=some (165,3):=by kernel_rfl
instance:Slc Tryz.prog 117 165 3:=⟨Cf8⟩
theorem AF1:slB Tryz.prog 118=some (116,1):=by kernel_rfl
instance:Slc Tryz.prog 118 116 1:=⟨AF1⟩
theorem Au5:slB Tryz.prog 29=some (9,1):=by kernel_rfl
instance:Slc Tryz.prog 29 9 1:=⟨Au5⟩
theorem Bd6:slB Tryz.prog 38=some (68,2):=by kernel_rfl
instance:Slc Tryz.prog 38 68 2:=⟨Bd6⟩
theorem AT1:slB Tryz.prog 39=some (70,3):=by kernel_rfl
instance:Slc Tryz.prog 39 70 3:=⟨AT1⟩
theorem Bf3:tyB Tryz.prog 116=some (false,1):=by kernel_rfl
instance:Tyc Tryz.prog 116 false 1:=⟨Bf3⟩
theorem Bs8:tyB Tryz.prog 117=some (false,1):=by kernel_rfl
instance:Tyc Tryz.prog 117 false 1:=⟨Bs8⟩
theorem Bf2:tyB Tryz.prog 118=some (false,1):=by kernel_rfl
instance:Tyc Tryz.prog 118 false 1:=⟨Bf2⟩
theorem Cd7:tyB Tryz.prog 152=some (false,1):=by kernel_rfl
instance:Tyc Tryz.prog 152 false 1:=⟨Cd7⟩
theorem Cd6:tyB Tryz.prog 165=some (true,3):=by kernel_rfl
instance:Tyc Tryz.prog 165 true 3:=⟨Cd6⟩
theorem Dc0:tyB Tryz.prog 223=some (false,1):=by kernel_rfl
instance:Tyc Tryz.prog 223 false 1:=⟨Dc0⟩
theorem Db9:tyB Tryz.prog 225=some (false,1):=by kernel_rfl
instance:Tyc Tryz.prog 225 false 1:=⟨Db9⟩
theorem Cd5:tyB Tryz.prog 227=some (true,2):=by kernel_rfl
instance:Tyc Tryz.prog 227 true 2:=⟨Cd5⟩
theorem BN0:tyB Tryz.prog 228=some (true,4):=by kernel_rfl
instance:Tyc Tryz.prog 228 true 4:=⟨BN0⟩
theorem Cz5:tyB Tryz.prog 29=some (false,1):=by kernel_rfl
instance:Tyc Tryz.prog 29 false 1:=⟨Cz5⟩
theorem Cz4:tyB Tryz.prog 38=some (false,1):=by kernel_rfl
instance:Tyc Tryz.prog 38 false 1:=⟨Cz4⟩
theorem Bm0:tyB Tryz.prog 39=some (false,1):=by kernel_rfl
instance:Tyc Tryz.prog 39 false 1:=⟨Bm0⟩
theorem Cd2:tyB Tryz.prog 41=some (true,2):=by kernel_rfl
instance:Tyc Tryz.prog 41 true 2:=⟨Cd2⟩
theorem Cz3:tyB Tryz.prog 68=some (true,2):=by kernel_rfl
instance:Tyc Tryz.prog 68 true 2:=⟨Cz3⟩
theorem Cz2:tyB Tryz.prog 70=some (true,3):=by kernel_rfl
instance:Tyc Tryz.prog 70 true 3:=⟨Cz2⟩
theorem AU4:zeroB Tryz.prog 116=some [.int .u64 0]:=by kernel_rfl
theorem Bl5:zeroB Tryz.prog 121=some [.slice none 0 0,.slice none 0 0,.slice none 0 0,.slice none 0 0,.map none]:=by kernel_rfl
theorem Cx9:zeroB Tryz.prog 152=some [.nilFunc]:=by kernel_rfl
theorem Bl4:zeroB Tryz.prog 165=some [.int .i64 0,.string ⟨#[]⟩,.string ⟨#[]⟩]:=by kernel_rfl
theorem AB5:zeroB Tryz.prog 227=some [.nilIface,.nilFunc]:=by kernel_rfl
theorem AG9:zeroB Tryz.prog 228=some [.nilIface,.nilFunc,.nilIface,.nilFunc]:=by kernel_rfl
theorem Bl0:zeroB Tryz.prog 68=some [.int .i64 0,.slice none 0 0]:=by kernel_rfl
theorem BC5:zeroB Tryz.prog 70=some [.int .i64 0,.string ⟨#[]⟩,.string ⟨#[]⟩]:=by kernel_rfl
end Go.Proofs.YtnmkdiagbkkmaabGreatDoor
namespace Go.Hp
open Go Go.Eng Go.Pw1
def visB:List Bx→List Bx
  | []=>[]
  | b::l=>if badBox b then [b] else b::visB l
theorem Bl7:∀ {l:List Bx},l.any badBox=false→visB l=l
  | [],_=>rfl
  | b::l,h=>by
    simp only [List.any_cons,Bool.or_eq_false_iff] at h;simp only [visB,h.1,Bool.false_eq_true,if_false,Bl7 h.2]
theorem BM7:∀ {l:List Bx} {k:Nat} (hk:k < l.length),(l.take k).any badBox=false→badBox l[k]=true→visB l=l.take (k + 1)
  | b::l,0,_,_,h=>by simp at h;simp [visB,h]
  | b::l,k + 1,hk,h1,h2=>by
    simp only [List.take_succ_cons,List.any_cons,Bool.or_eq_false_iff] at h1;simp only [List.getElem_cons_succ] at h2;simp only [visB,h1.1,Bool.false_eq_true,if_false,List.take_succ_cons];rw [BM7 (by simpa using hk) h1.2 h2]
theorem AY9 {l:List BxA} {k:Nat} (hk:k < l.length):manyX ((l.take (k + 1)).map (·.bx))=manyX ((l.take k).map (·.bx)) + l[k].bx.titles.length:=by
  rw [List.take_succ_eq_append_getElem hk];simp only [manyX,List.map_append,List.sum_append,List.map_cons,List.map_nil,List.sum_cons,List.sum_nil];omega
theorem BF6 {l:List BxA} (h:∀ x∈l,x.bx.titles.length≤1000):∀ k,manyX ((l.take k).map (·.bx))≤k * 1000
  | 0=>by simp [manyX]
  | k + 1=>by
    have ih:=BF6 h k
    rcases Nat.lt_or_ge k l.length with hk | hk
    · rw [AY9 hk]
      have h2:=h _ (List.getElem_mem hk);rw [Nat.add_mul,Nat.one_mul];exact Nat.add_le_add ih h2
    · have e1:l.take (k + 1)=l:=List.take_of_length_le (by omega)
      have e2:l.take k=l:=List.take_of_length_le hk;rw [e2] at ih;rw [e1,Nat.add_mul];exact Nat.le_trans ih (Nat.le_add_right _ _)
theorem Sl.mono1 {W w:World} {p:Option Addr} {b o sz:Nat} {xs:List (List Value)} {k:Nat} {ob:Obj} {news:Blks} (h:Sl W p b o sz xs) (hz:0 < sz) (hm:Mem W [(k,ob)] news w) (hc:xs ≠ []→b ≠ k):Sl w p b o sz xs :=
  h.mono' hz hm fun hx ob' hin=>by
    rcases List.mem_cons.1 hin with h1 | h1
    · exact hc hx (Prod.mk.inj h1).1
    · cases h1
theorem BD9 {l:List Str} (h:strsV l ≠ []):l ≠ []:=by rintro rfl;exact h rfl
structure TSmall (x:BxA):Prop where
  n:x.bx.titles.length≤1000
  t:∀ t∈x.bx.titles,t.length≤1000000
structure MSm (m:MxA):Prop where
  bx:m.bxs.length≤1000
  cd:m.cards.length≤1000
  ti:∀ x∈m.bxs,TSmall x
  tx:∀ t∈m.cards,t.number.length≤1000000∧t.text.length≤1000000
theorem CS6 {W w:World} {chg news:Blks} {b b':Nat} {c c':Array Value} {T T':TypeId} {f f':Nat×Nat} (hm:Mem W chg news w) (h:(b,.cells c T f)∈chg++news) (h':(b',.cells c' T' f')∈chg++news) (hT:T ≠ T'):b ≠ b':=fun e=>by
  have h1:=hm.at h;have h2:=hm.at h';rw [e,h2] at h1;simp at h1
  exact hT h1.2.1.symm
theorem Ck3 {m:MxA} (h:(m.bxs.length:Int)≤4∧(m.cards.length:Int)≤8):((!(m.bxs.map (·.bx)).any badBox && decide (((manyX (visB (m.bxs.map (·.bx))):Nat):Int)≤12)) && !m.cards.any badCard)=mixedX m.pl:=by
  have n1:m.bxs.length≤4:=by omega
  have n2:m.cards.length≤8:=by omega
  have h12:∀ x:Nat,decide (((x:Nat):Int)≤12)=decide (x≤12):=fun x=>decide_eq_decide.2 (by omega)
  rcases Bool.eq_false_or_eq_true ((m.bxs.map (·.bx)).any badBox) with hb | hb
  · unfold mixedX MxA.pl
    simp only [hb];simp
  · unfold mixedX MxA.pl
    rw [Bl7 hb];simp only [hb,List.length_map,n1,n2,h12];simp
theorem CE4 {m:MxA} (h:4 < (m.bxs.length:Int)∨8 < (m.cards.length:Int)):mixedX m.pl=false:=by
  rw [Bool.eq_false_iff];intro h2;unfold mixedX at h2;simp only [Bool.and_eq_true] at h2;obtain ⟨⟨⟨⟨a1,a2⟩,_⟩,_⟩,_⟩:=h2;have a3:(m.bxs.map (·.bx)).length≤4:=of_decide_eq_true a1;have a4:m.cards.length≤8:=of_decide_eq_true a2;rw [List.length_map] at a3;omega
end Go.Hp
namespace Go.Proofs.YtnmkdiagbkkmaabGreatDoor
open Go Go.Eng Go.Hp Go.Pw1

theorem Bw7 (l:List Str) (hsm:∀ t∈l,t.length≤1000000) (hl:l.length≤1000) (q:Option Addr) (b o cap:Nat) (W:World) (hS:Sl W q b o 1 (strsV l)) :
    Calls Tryz.prog 207 #[.slice q l.length cap,.func (.func 141) #[] #[]] W (Pure (.int .i64 (idxF badTitle l)) W):=by
  refine Aa0 Tryz.func207 rfl rfl ?_;refine su ?_;refine Ae5 (l.length) (fun k q=>(8,.int .i64 (k:Int))::q) (fun _=>_) (fun _=>[]) (fun k=>(l.take k).any badTitle=false) (by simp) rfl (zE 8 rfl rfl (zS 0 rfl (zS 1 rfl (zS 7 rfl (Sub.nil _))))) .nil ?_;intro k kN kI;refine st ?_;refine cn rfl ?_ ?_
  ·intro c0'
   have hk:k < l.length:=by omega
   refine st ?_;refine lv (Aa8 rfl rfl Au5 (by omega) (by omega) (hS.ptrM hk)) ?_;refine lv (Ab0 rfl (fun w hm=>hS.loadM1 (by decide) hm (by simp) AE3 hk (v:=.string (bs l[k])) rfl)) ?_;refine Ab7 (Ac5 rfl rfl CY6) rfl rfl rfl (fun w hm=>Be2 _ (hsm _ (List.getElem_mem hk)) w) ?_;refine st ?_;refine cn rfl ?_ ?_
   ·intro c1'
    refine su ?_;exact Aa4 (.r1 rfl (.tmp rfl)) (by rw [AC8 badTitle l k hk kI c1'])
   intro c1';refine st ?_;refine lv (Val.add rfl rfl (IntWalk.i64_in _ ⟨by omega,by omega⟩)) ?_;exact Ad0 (by omega) (Ay9 hk kI c1') rfl (zE 8 rfl rfl (zS 0 rfl (zS 1 rfl (zS 7 rfl (Sub.nil _))))) .nil
  intro c0';obtain rfl:k=l.length:=by omega
  rw [List.take_length] at kI;refine RunC.exit ?_;refine su ?_;refine Ab1 ?_;refine su ?_;exact Aa4 (.r1 rfl (.tmp rfl)) (by rw [Aw8 badTitle l kI])
theorem Bb4 (l:List Str) (hsm:∀ t∈l,t.length≤1000000) (hl:l.length≤1000) (q:Option Addr) (b o cap:Nat) (W:World) (hS:Sl W q b o 1 (strsV l)) :
    Calls Tryz.prog 146 #[.slice q l.length cap,.func (.func 141) #[] #[]] W (Pure (.bool (l.any badTitle)) W):=by
  refine Aa0 Tryz.func146 rfl rfl ?_;refine st ?_;refine zc (zF rfl CW2) (fun w hm=>Bw7 l hsm hl q b o cap w (hS.mono (by decide) hm (by simp))) ?_;exact Aa4 (.r1 rfl (.tmp rfl)) (by rw [← AI2])
theorem Bw6 (l:List Tn) (hsm:∀ t∈l,t.number.length≤1000000∧t.text.length≤1000000) (hl:l.length≤1000) (q:Option Addr) (b o cap:Nat) (W:World) (hS:Sl W q b o 3 (l.map Tn.cells)) :
    Calls Tryz.prog 212 #[.slice q l.length cap,.func (.func 147) #[] #[]] W (Pure (.int .i64 (idxF badCard l)) W):=by
  refine Aa0 Tryz.func212 rfl rfl ?_;refine su ?_;refine Ae5 (l.length) (fun k q=>(8,.int .i64 (k:Int))::q) (fun _=>_) (fun _=>[]) (fun k=>(l.take k).any badCard=false) (by simp) rfl (zE 8 rfl rfl (zS 0 rfl (zS 1 rfl (zS 7 rfl (Sub.nil _))))) .nil ?_;intro k kN kI;refine st ?_;refine cn rfl ?_ ?_
  ·intro c0'
   have hk:k < l.length:=by omega
   refine st ?_;refine lv (Aa8 rfl rfl AT1 (by omega) (by omega) (hS.ptrM hk)) ?_;refine lv (Ab0 rfl (fun w hm=>hS.loadM (by decide) hm (by simp) Cz2 hk)) ?_;refine Ab7 (Ac5 rfl rfl CY3) rfl rfl rfl (fun w hm=>Br1 _ (hsm _ (List.getElem_mem hk)) w) ?_;refine st ?_;refine cn rfl ?_ ?_
   ·intro c1'
    refine su ?_;exact Aa4 (.r1 rfl (.tmp rfl)) (by rw [AC8 badCard l k hk kI c1'])
   intro c1';refine st ?_;refine lv (Val.add rfl rfl (IntWalk.i64_in _ ⟨by omega,by omega⟩)) ?_;exact Ad0 (by omega) (Ay9 hk kI c1') rfl (zE 8 rfl rfl (zS 0 rfl (zS 1 rfl (zS 7 rfl (Sub.nil _))))) .nil
  intro c0';obtain rfl:k=l.length:=by omega
  rw [List.take_length] at kI;refine RunC.exit ?_;refine su ?_;refine Ab1 ?_;refine su ?_;exact Aa4 (.r1 rfl (.tmp rfl)) (by rw [Aw8 badCard l kI])
theorem AG0 (l:List Tn) (hsm:∀ t∈l,t.number.length≤1000000∧t.text.length≤1000000) (hl:l.length≤1000) (q:Option Addr) (b o cap:Nat) (W:World) (hS:Sl W q b o 3 (l.map Tn.cells)) :
    Calls Tryz.prog 150 #[.slice q l.length cap,.func (.func 147) #[] #[]] W (Pure (.bool (l.any badCard)) W):=by
  refine Aa0 Tryz.func150 rfl rfl ?_;refine st ?_;refine zc (zF rfl CV7) (fun w hm=>Bw6 l hsm hl q b o cap w (hS.mono (by decide) hm (by simp))) ?_;exact Aa4 (.r1 rfl (.tmp rfl)) (by rw [← AI2])
theorem BB0 (x:BxA) (hx:TSmall x) (n:Nat) (hn:n≤10000000) (bM bF:Nat) (W:World) (h4:W.heap[bM]? = some (.cells [.int .i64 (n:Int)].toArray 3 (0,0))) (h3:W.heap[bF]? = some (.cells [.func (.func 141) #[] #[]].toArray 152 (0,0))) (hne:bF ≠ bM)
    (hT:TOk W x) (hb:x.bx.titles ≠ []→x.b ≠ bM) :
    Calls Tryz.prog 145 #[.agg x.cells.toArray,.pointer (some ⟨bM,0,none⟩),.pointer (some ⟨bF,0,none⟩)] W (TurnsX bM (.cells [.int .i64 ((n + x.bx.titles.length:Nat):Int)].toArray 3 (0,0)) (fun _:Unit=>.bool (badBox x.bx)) (fun _=>True) W):=by
  have hx1:=hx.n;refine Aj7 h4 Tryz.func145 rfl rfl ?_;refine st ?_;refine zn (New.box rfl) (fun b3=>?_)
  refine lv (Ah1 (a:=n) (b:=x.bx.titles.length) (n + x.bx.titles.length) rfl rfl rfl (Ap3 (by omega))) ?_;refine Aa9 (Ad1 rfl rfl .here Ag4 rfl rfl) rfl rfl ?_;refine su ?_;refine zc (zF rfl BI4) (fun w hm=>AC9 _ _ _ w) ?_
  refine Ad4 (dj:=14) (dp:=19) 5 rfl (fun g14=>by
    have g14':=g14;try simp only [nH] at g14'
    refine su ?_;refine lv (Aa2 rfl h3 (by simp [hne]) Cd7 rfl) ?_;refine Ab7 (zF rfl CY4) rfl rfl rfl (fun w hm=>Bb4 x.bx.titles hx.t hx1 x.q x.b x.o x.cap w (Sl.mono1 hT (by decide) hm (fun h=>hb (BD9 h)))) ?_;refine sv ?_;exact zs g14
  ) (fun g14=>by
    have g14':=g14;try simp only [nH] at g14'
    iterate 4 refine Ab8 rfl rfl rfl ?_
    refine sv ?_;exact zs g14
  ) ?_
  refine su ?_;exact AO3 () trivial (.r1 rfl (.tmp rfl)) (by simp [badBox])
theorem Bw8 (l:List BxA) (hsm:∀ x∈l,TSmall x) (hl:l.length≤1000) (q:Option Addr) (b o cap bM bF:Nat) (W:World) (h4:W.heap[bM]? = some (.cells [.int .i64 ((0:Nat):Int)].toArray 3 (0,0))) (h3:W.heap[bF]? = some (.cells [.func (.func 141) #[] #[]].toArray 152 (0,0))) (hne:bF ≠ bM)
    (hS:Sl W q b o 2 (l.map BxA.cells)) (hb:l ≠ []→b ≠ bM) (hT:∀ x∈l,TOk W x) (hTb:∀ x∈l,x.bx.titles ≠ []→x.b ≠ bM) :
    Calls Tryz.prog 211 #[.slice q l.length cap,.func (.func 145) #[] #[.pointer (some ⟨bM,0,none⟩),.pointer (some ⟨bF,0,none⟩)]] W
      (TurnsX bM (.cells [.int .i64 ((manyX (visB (l.map (·.bx))):Nat):Int)].toArray 3 (0,0)) (fun _:Unit=>.int .i64 (idxF badBox (l.map (·.bx)))) (fun _=>True) W):=by
  have hml:=BF6 fun x hx=>(hsm x hx).n
  refine Aj7 h4 Tryz.func211 rfl rfl ?_;refine su ?_;refine Ae5 (l.length) (fun k q=>(8,.int .i64 (k:Int))::q) (fun k=>[(bM,.cells [.int .i64 ((manyX ((l.take k).map (·.bx)):Nat):Int)].toArray 3 (0,0))]) (fun _=>[]) (fun k=>((l.take k).map (·.bx)).any badBox=false) (by simp) rfl (zE 8 rfl rfl (zS 0 rfl (zS 1 rfl (zS 7 rfl (Sub.nil _))))) .nil ?_;intro k kN kI;refine st ?_;refine cn rfl ?_ ?_
  ·intro c0'
   have hk:k < l.length:=by omega
   obtain ⟨x,hx⟩:∃ x,l[k]=x:=⟨_,rfl⟩;have hxm:x∈l:=hx ▸ List.getElem_mem hk;have hmk:=hml k;refine st ?_;refine lv (Aa8 rfl rfl Bd6 (by omega) (by omega) (hS.ptrM hk)) ?_;refine lv (Ab0 rfl (fun w hm=>(Sl.mono1 hS (by decide) hm (fun h=>hb (by rintro rfl;exact h rfl))).loadX (by decide) (Mem.refl w) (by simp) Cz3 hk hx)) ?_;refine AJ2 (Ac5 rfl rfl CY5) rfl rfl rfl .here (fun w hm=>BB0 x (hsm x hxm) _ (by omega) bM bF w (hm.at (.head _)) (hm.old_at h3 (by simp [hne])) hne (Sl.mono1 (hT x hxm) (by decide) hm (fun h=>hTb x hxm (BD9 h))) (hTb x hxm)) (fun x16 hx16=>?_)
   refine st ?_;refine cn rfl ?_ ?_
   ·intro c1'
    refine st ?_;refine RunC.ret ?_;refine Ad3 ?_;refine Ad2 ?_;refine Ad2 ?_;refine Ad3 ?_;refine Ad2 ?_;rw [List.map_take] at kI;have hkm:k < (l.map (·.bx)).length:=by simpa using hk
    have hbk:badBox (l.map (·.bx))[k]=true:=by simp [hx,c1']
    have hv:manyX (visB (l.map (·.bx)))=manyX ((l.take k).map (·.bx)) + x.bx.titles.length:=by rw [BM7 hkm kI hbk,← List.map_take,AY9 hk,hx]
    rw [hv];exact AO3 () trivial (.r1 rfl (.tmp rfl)) (by rw [AC8 badBox _ k hkm kI hbk])
   intro c1';refine st ?_;refine lv (Val.add rfl rfl (IntWalk.i64_in _ ⟨by omega,by omega⟩)) ?_;exact Ad0 (by omega) (by rw [List.map_take] at kI ⊢;exact Ay9 (by simpa using hk) kI (by simp [hx,c1'])) (by rw [AY9 hk,hx]) (zE 8 rfl rfl (zS 0 rfl (zS 1 rfl (zS 7 rfl (Sub.nil _))))) .nil
  intro c0';obtain rfl:k=l.length:=by omega
  rw [List.take_length] at kI;simp only [List.take_length];refine RunC.exit ?_;refine su ?_;refine Ab1 ?_;refine st ?_;refine RunC.ret ?_;rw [Bl7 kI];exact AO3 () trivial (.r1 rfl (.tmp rfl)) (by rw [Aw8 badBox _ kI])
theorem Bb5 (l:List BxA) (hsm:∀ x∈l,TSmall x) (hl:l.length≤1000) (q:Option Addr) (b o cap bM bF:Nat) (W:World) (h4:W.heap[bM]? = some (.cells [.int .i64 ((0:Nat):Int)].toArray 3 (0,0))) (h3:W.heap[bF]? = some (.cells [.func (.func 141) #[] #[]].toArray 152 (0,0))) (hne:bF ≠ bM)
    (hS:Sl W q b o 2 (l.map BxA.cells)) (hb:l ≠ []→b ≠ bM) (hT:∀ x∈l,TOk W x) (hTb:∀ x∈l,x.bx.titles ≠ []→x.b ≠ bM) :
    Calls Tryz.prog 149 #[.slice q l.length cap,.func (.func 145) #[] #[.pointer (some ⟨bM,0,none⟩),.pointer (some ⟨bF,0,none⟩)]] W
      (TurnsX bM (.cells [.int .i64 ((manyX (visB (l.map (·.bx))):Nat):Int)].toArray 3 (0,0)) (fun _:Unit=>.bool ((l.map (·.bx)).any badBox)) (fun _=>True) W):=by
  refine Aj7 h4 Tryz.func149 rfl rfl ?_;refine st ?_;refine AJ2 (zF rfl CV8) rfl rfl rfl .here (fun w hm=>Bw8 l hsm hl q b o cap bM bF w (hm.at (.head _)) (hm.old_at h3 (by simp [hne])) hne (Sl.mono1 hS (by decide) hm (fun h=>hb (by rintro rfl;exact h rfl))) hb (fun x hx=>Sl.mono1 (hT x hx) (by decide) hm (fun h=>hTb x hx (BD9 h))) hTb) (fun x7 hx7=>?_)
  refine su ?_;exact AO3 () trivial (.r1 rfl (.tmp rfl)) (by rw [← AI2])
theorem AN0 (m:MxA) (hsm:MSm m) (W:World) (hM:MOk W m):Calls Tryz.prog 92 #[m.v] W (Pure (.bool (mixedX m.pl)) W):=by
  have hs1:=hsm.bx;have hs2:=hsm.cd;refine Aa0 Tryz.func92 rfl rfl ?_;refine csr ?_;refine AV9 (New.box rfl) rfl rfl rfl (fun b1=>?_)
  refine vp rfl rfl rfl rfl ?_;refine nsr ?_;refine AV9 (New.alloc Cx9) rfl rfl rfl (fun b3=>?_)
  refine Aa9 (Sto.store rfl rfl .here Cd7 rfl rfl) rfl rfl ?_;refine nsr ?_;refine AV9 (New.alloc Ax7) rfl rfl rfl (fun b4=>?_)
  refine Aa9 (Sto.store rfl rfl .here Ag4 rfl rfl) rfl rfl ?_;refine nsr ?_;refine vp rfl rfl rfl rfl ?_;refine vp rfl rfl rfl rfl ?_;refine nsr ?_;refine vp rfl rfl rfl rfl ?_;refine nsr ?_;refine Ac7 (Val.fieldAddr rfl Bo4) rfl rfl rfl ?_;refine Ac7 (Ab6 rfl (.tail _ (.tail _ (.head _))) Cz4 rfl) rfl rfl rfl ?_;refine Ac7 (Al1 rfl Bd6) rfl rfl rfl ?_;refine vp rfl rfl rfl rfl ?_;refine vp rfl rfl rfl rfl ?_
  refine Ab3 (dj:=12) (dp:=17) 5 rfl (fun g12=>by
    have g12':=g12;try simp only [nH] at g12'
    refine Ac7 (Val.fieldAddr rfl AI3) rfl rfl rfl ?_;refine Ac7 (Ab6 rfl (.tail _ (.tail _ (.head _))) Bm0 rfl) rfl rfl rfl ?_;refine Ac7 (Al1 rfl AT1) rfl rfl rfl ?_;refine vp rfl rfl rfl rfl ?_;refine vp rfl rfl rfl rfl ?_;exact Af8 (Sub.cons rfl (Sub.skip rfl (Sub.skip rfl (Sub.skip rfl (Sub.skip rfl (Sub.skip rfl (Ah3 rfl (by rw [g12]) (Ac1 _)))))))) (List.Sublist.refl _)
  ) (fun g12=>by
    have g12':=g12;try simp only [nH] at g12'
    iterate 4 refine Ab8 rfl rfl rfl ?_
    refine vp rfl rfl rfl rfl ?_;exact Af8 (Sub.cons rfl (Sub.skip rfl (Sub.skip rfl (Sub.skip rfl (Sub.skip rfl (Sub.skip rfl (Ah3 rfl (by rw [g12]) (Ac1 _)))))))) (List.Sublist.refl _)
  ) ?_
  refine vp rfl rfl rfl rfl ?_;refine Cv8 (dj:=18) rfl ?_ ?_
  ·intro g18
   have g18':=g18;clear g18;try simp only [nH] at g18'
   refine Ac7 (Val.fieldAddr rfl Bo4) rfl rfl rfl ?_;refine Ac7 (Ab6 rfl (.tail _ (.tail _ (.head _))) Cz4 rfl) rfl rfl rfl ?_;refine vp rfl rfl rfl rfl ?_;refine Ca4 (Aq2 rfl CY2) rfl rfl rfl .here (fun w hm=>Bb5 m.bxs hsm.ti hs1 m.q m.b m.o m.cap b4 b3 w (hm.at (.head _)) (hm.at (.tail _ (.head _))) (CS6 hm (.tail _ (.head _)) (.head _) (by decide)) (hM.bx.mono (by decide) hm (by simp)) (fun h=>hM.bx.ne (by decide) hm (.head _) (by simpa using h)) (fun x hx=>(hM.ti x hx).mono (by decide) hm (by simp)) (fun x hx h=>(hM.ti x hx).ne (by decide) hm (.head _) (by simpa [strsV] using h))) (fun x22 hx22=>?_)
   iterate 3 refine vp rfl rfl rfl rfl ?_
   refine Ab3 (dj:=25) (dp:=28) 3 rfl (fun g25=>by
     have g25':=g25;try simp only [nH] at g25'
     refine Ac7 (Ab6 rfl (.head _) Ag4 rfl) rfl rfl rfl ?_;refine vp rfl rfl rfl rfl ?_;refine vp rfl rfl rfl rfl ?_;exact Af8 (Sub.cons rfl (Sub.skip rfl (Sub.skip rfl (Sub.skip rfl (Ah3 rfl (by rw [g25]) (Ac1 _)))))) (List.Sublist.refl _)
   ) (fun g25=>by
     have g25':=g25;try simp only [nH] at g25'
     refine Ab8 rfl rfl rfl ?_;refine Ab8 rfl rfl rfl ?_;refine vp rfl rfl rfl rfl ?_;exact Af8 (Sub.cons rfl (Sub.skip rfl (Sub.skip rfl (Sub.skip rfl (Ah3 rfl (by rw [g25]) (Ac1 _)))))) (List.Sublist.refl _)
   ) ?_
   refine vp rfl rfl rfl rfl ?_
   refine Ab3 (dj:=29) (dp:=35) 6 rfl (fun g29=>by
     have g29':=g29;try simp only [nH] at g29'
     refine Ac7 (Val.fieldAddr rfl AI3) rfl rfl rfl ?_;refine Ac7 (Ab6 rfl (.tail _ (.tail _ (.head _))) Bm0 rfl) rfl rfl rfl ?_;refine vp rfl rfl rfl rfl ?_;refine Ab7 (Aq2 rfl Cr2) rfl rfl rfl (fun w hm=>AG0 m.cards hsm.tx hs2 m.q2 m.b2 m.o2 m.cap2 w (hM.cd.mono (by decide) hm (by simp))) ?_;refine vp rfl rfl rfl rfl ?_;refine vp rfl rfl rfl rfl ?_;exact Af8 (Sub.cons rfl (Sub.skip rfl (Sub.skip rfl (Sub.skip rfl (Sub.skip rfl (Sub.skip rfl (Sub.skip rfl (Ah3 rfl (by rw [g29]) (Ac1 _))))))))) (List.Sublist.refl _)
   ) (fun g29=>by
     have g29':=g29;try simp only [nH] at g29'
     iterate 5 refine Ab8 rfl rfl rfl ?_
     refine vp rfl rfl rfl rfl ?_;exact Af8 (Sub.cons rfl (Sub.skip rfl (Sub.skip rfl (Sub.skip rfl (Sub.skip rfl (Sub.skip rfl (Sub.skip rfl (Ah3 rfl (by rw [g29]) (Ac1 _))))))))) (List.Sublist.refl _)
   ) ?_
   refine vp rfl rfl rfl rfl ?_;refine nnx ?_;refine RunC.ret ?_;exact Aa4 (.r1 rfl (.tmp rfl)) (by rw [← Ck3 g18'])
  intro g18;have g18':=g18;clear g18;try simp only [nH] at g18'
  iterate 5 refine Ab8 rfl rfl rfl ?_
  refine vp rfl rfl rfl rfl ?_;refine vp rfl rfl rfl rfl ?_
  refine Ab3 (dj:=25) (dp:=28) 3 rfl (fun g25=>by
    have g25':=g25;try simp only [nH] at g25'
    refine Ac7 (Ab6 rfl (.head _) Ag4 rfl) rfl rfl rfl ?_;refine vp rfl rfl rfl rfl ?_;refine vp rfl rfl rfl rfl ?_;exact Af8 (Sub.cons rfl (Sub.skip rfl (Sub.skip rfl (Sub.skip rfl (Ah3 rfl (by rw [g25]) (Ac1 _)))))) (List.Sublist.refl _)
  ) (fun g25=>by
    have g25':=g25;try simp only [nH] at g25'
    refine Ab8 rfl rfl rfl ?_;refine Ab8 rfl rfl rfl ?_;refine vp rfl rfl rfl rfl ?_;exact Af8 (Sub.cons rfl (Sub.skip rfl (Sub.skip rfl (Sub.skip rfl (Ah3 rfl (by rw [g25]) (Ac1 _)))))) (List.Sublist.refl _)
  ) ?_
  refine vp rfl rfl rfl rfl ?_
  refine Ab3 (dj:=29) (dp:=35) 6 rfl (fun g29=>by
    have g29':=g29;try simp only [nH] at g29'
    refine Ac7 (Val.fieldAddr rfl AI3) rfl rfl rfl ?_;refine Ac7 (Ab6 rfl (.tail _ (.tail _ (.head _))) Bm0 rfl) rfl rfl rfl ?_;refine vp rfl rfl rfl rfl ?_;refine Ab7 (Aq2 rfl Cr2) rfl rfl rfl (fun w hm=>AG0 m.cards hsm.tx hs2 m.q2 m.b2 m.o2 m.cap2 w (hM.cd.mono (by decide) hm (by simp))) ?_;refine vp rfl rfl rfl rfl ?_;refine vp rfl rfl rfl rfl ?_;exact Af8 (Sub.cons rfl (Sub.skip rfl (Sub.skip rfl (Sub.skip rfl (Sub.skip rfl (Sub.skip rfl (Sub.skip rfl (Ah3 rfl (by rw [g29]) (Ac1 _))))))))) (List.Sublist.refl _)
  ) (fun g29=>by
    have g29':=g29;try simp only [nH] at g29'
    iterate 5 refine Ab8 rfl rfl rfl ?_
    refine vp rfl rfl rfl rfl ?_;exact Af8 (Sub.cons rfl (Sub.skip rfl (Sub.skip rfl (Sub.skip rfl (Sub.skip rfl (Sub.skip rfl (Sub.skip rfl (Ah3 rfl (by rw [g29]) (Ac1 _))))))))) (List.Sublist.refl _)
  ) ?_
  refine vp rfl rfl rfl rfl ?_;refine nnx ?_;refine RunC.ret ?_;exact Aa4 (.r1 rfl (.tmp rfl)) (by rw [CE4 g18'];simp)
end Go.Proofs.YtnmkdiagbkkmaabGreatDoor
namespace Go.Hp
open Go Go.Eng Go.Pw1
def orL (l:List Nat):Nat:=l.foldl (· ||| ·) 0
theorem CC8 (l:List Nat) (a:Nat):orL (l++[a])=orL l ||| a:=by simp [orL]
theorem Dd8 {n:Nat}:∀ (l:List Nat),(∀ a∈l,a < 2 ^ n)→orL l < 2 ^ n:=by
  intro l
  have key:∀ (l:List Nat) (z:Nat),z < 2 ^ n→(∀ a∈l,a < 2 ^ n)→l.foldl (· ||| ·) z < 2 ^ n:=by
    intro l
    induction l with
    | nil=>intro z hz _;exact hz
    | cons a l ih=>intro z hz h;exact ih _ (Nat.or_lt_two_pow hz (h a (by simp))) (fun b hb=>h b (List.mem_cons_of_mem _ hb))
  exact key l 0 (Nat.two_pow_pos n)
def setsV (l:List Nat):List (List Value):=l.map fun (x:Nat)=>[.int .u64 (x:Int)]
theorem AN3 {t:Tn} {es:List En} {k:Nat} (hk:k < es.length) {x:En} (hx:es[k]=x):fitsL t 0 (es.take (k + 1))=fitsL t 0 (es.take k) ||| (if fitX t x then 2 ^ k else 0):=by
  rw [List.take_succ_eq_append_getElem hk,Bi3,hx];simp [Nat.min_eq_left (Nat.le_of_lt hk)]
end Go.Hp
namespace Go.Proofs.YtnmkdiagbkkmaabGreatDoor
open Go Go.Eng Go.Hp Go.Pw1

-- Ak5
-- Ak6
theorem BD1 (l:List Nat) (hlt:∀ a∈l,a < 2 ^ 12) (hl:l.length≤1000) (q:Option Addr) (b o cap:Nat) (W:World) (hS:Sl W q b o 1 (setsV l)):Calls Tryz.prog 88 #[.slice q l.length cap] W (Pure (.int .u64 ((orL l:Nat):Int)) W):=by
  refine Aa0 Tryz.func88 rfl rfl ?_;refine su ?_;refine Ae5 (l.length) (fun k q=>(7,.int .i64 (k:Int))::(2,.int .u64 ((orL (l.take k):Nat):Int))::q) (fun _=>_) (fun _=>[]) (fun _=>True) trivial rfl (zE 7 rfl rfl (zE 2 rfl rfl (zS 5 rfl (zS 6 rfl (Sub.nil _))))) .nil ?_;intro k kN kI;clear kI;refine st ?_;refine cn rfl ?_ ?_
  ·intro c0'
   have hk:k < l.length:=by omega
   obtain ⟨x,hx⟩:∃ x,l[k]=x:=⟨_,rfl⟩;have h1:=hlt x (hx ▸ List.getElem_mem hk);have h2:=Dd8 (l.take k) (fun a ha=>hlt a (List.mem_of_mem_take ha));have h3:=Nat.or_lt_two_pow h2 h1;refine st ?_;refine lv (Aa8 rfl rfl AF1 (by omega) (by omega) (hS.ptrM hk)) ?_;refine lv (Ab0 rfl (fun w hm=>hS.loadM1 (by decide) hm (by simp) Bf3 hk (v:=.int .u64 (x:Int)) (by simp [hx]))) ?_;refine lv (Val.or (a:=orL (l.take k)) (b:=x) rfl rfl (by show _ < 18446744073709551616;omega) (by show _ < 18446744073709551616;omega) (u64_in (by omega))) ?_;refine lv (Val.add rfl rfl (IntWalk.i64_in _ ⟨by omega,by omega⟩)) ?_;exact Ad0 (by omega) trivial rfl (zE 7 rfl rfl (zE 2 rfl (by rw [List.take_succ_eq_append_getElem hk,CC8,hx]) (zS 5 rfl (zS 6 rfl (Sub.nil _))))) .nil
  intro c0';obtain rfl:k=l.length:=by omega
  simp only [List.take_length];refine RunC.exit ?_;refine su ?_;refine Ab1 ?_;refine su ?_;exact Aa4 (.r1 rfl (.tmp rfl)) (by first | rfl | simp)
theorem AE7 (a c:Nat) (ha:a < 2 ^ 12) (hc:c < 2 ^ 12) (b:Nat) (W:World) (h:W.heap[b]? = some (.cells [.int .u64 (a:Int),.int .u64 (c:Int)].toArray 116 (0,0))):Calls Tryz.prog 88 #[.slice (some ⟨b,0,none⟩) 2 2] W (Pure (.int .u64 ((a ||| c:Nat):Int)) W):=by
  have h1:=BD1 [a,c] (by intro x hx;rcases List.mem_cons.1 hx with rfl | hx;exact ha;cases List.mem_singleton.1 hx;exact hc) (by simp) (some ⟨b,0,none⟩) b 0 2 W (Sl.row1 h);have e:orL [a,c]=a ||| c:=by simp [orL]
  rw [e] at h1;exact h1
theorem Bx3 (s i:Nat) (hs:s < 2 ^ 12) (hi:i≤60) (W:World):Calls Tryz.prog 87 #[.int .u64 (s:Int),.int .i64 (i:Int)] W (Pure (.bool (s.testBit i)) W):=by
  have h1:=Nat.shiftRight_le s i;have h2:=Nat.and_le_right (n:=s >>> i) (m:=1);refine Aa0 Tryz.func87 rfl rfl ?_;refine st ?_;refine lv (Ak2 (a:=s) (b:=i) rfl rfl (by show i≤64;omega)) ?_;refine lu (Val.and (a:=s >>> i) (b:=1) rfl rfl (by show _ < 18446744073709551616;omega) (by decide) (u64_in (by omega))) ?_;exact Aa4 (.r1 rfl (.tmp rfl)) (by refine congrArg Value.bool ?_;rw [Nat.testBit_eq_decide_div_mod_eq,← Nat.shiftRight_eq_div_pow,decide_eq_decide,Nat.and_one_is_mod];omega)
theorem BY0 (x:En) (W:World):Calls Tryz.prog 152 #[.agg x.cells.toArray] W (Pure (.string (bs x.number)) W):=by
  refine Aa0 Tryz.func152 rfl rfl ?_;refine st ?_;refine zn (New.box rfl) (fun b1=>?_)
  exact Aa4 (.r1 rfl (.tmp rfl)) (by first | rfl | simp)
theorem BX9 (x:En) (W:World):Calls Tryz.prog 153 #[.agg x.cells.toArray] W (Pure (.string (bs x.title)) W):=by
  refine Aa0 Tryz.func153 rfl rfl ?_;refine st ?_;refine zn (New.box rfl) (fun b1=>?_)
  exact Aa4 (.r1 rfl (.tmp rfl)) (by first | rfl | simp)
theorem AW8 (p s:Str) (hp:p.length≤1000000) (hs:s.length≤1000000) (W:World):Calls Tryz.prog (pieceF p) #[pieceP p,.string (bs s)] W (Pure (.bool (suitsX p s)) W):=by
  unfold pieceF pieceP suitsX
  cases h:starAt p with
  | some i=>exact BY2 (p.take i) (p.drop (i + 1)) s (by simp;omega) (by simp;omega) hs W
  | none=>exact AB7 p s hp hs W
theorem AR5 {r:Regs} {x:Operand} {p:Str} {xs:List Operand} {vs:List Value} {ats:Array TypeId} {dst:Option Tmp} {gd:Option (Nat×Bool)} {ty:TypeId} {pos:String} {after:Array Edge} (hv:rev r x=some (pieceV p)) (hx:revs r xs=some vs) :
    IsCall Tryz.prog r { dst,op:=.call { callee:=.invoke x "pairworks/heap.suits",args:=xs.toArray,argTypes:=ats },type:=ty,pos,after,guard:=gd } (pieceF p) (pieceP p::vs).toArray:=by
  unfold pieceV pieceT pieceP at hv;unfold pieceF pieceP
  cases h:starAt p with
  | some i =>
    rw [h] at hv;exact Ai2 hv hx (fun w=>Ak5 _ w) CU1
  | none =>
    rw [h] at hv;exact Ai2 hv hx (fun w=>Ak6 _ w) Bo9
theorem Cp3 (t:Tn) (ht:t.number.length≤1000000∧t.text.length≤1000000) (es:List En) (hes:es.length≤12) (hen:∀ x∈es,x.number.length≤1000000∧x.title.length≤1000000) (bh:Nat) (v0 v1 v3 v4:Value) (qe:Option Addr) (be ce:Nat) (W:World)
    (hv:W.heap[bh]? = some (.cells [v0,v1,.slice qe es.length ce,v3,v4].toArray 121 (0,0))) (hS:Sl W qe be 0 3 (es.map En.cells)) :
    Calls Tryz.prog 93 #[.pointer (some ⟨bh,0,none⟩),.agg t.cells.toArray] W (Pure (.int .u64 ((fitsL t 0 es:Nat):Int)) W):=by
  refine Aa0 Tryz.func93 rfl rfl ?_;refine st ?_;refine zn (New.box rfl) (fun b3=>?_)
  refine RunC.scope ?_;refine RunC.seq ?_
  apply Al3 (J:=J1 _ _ _ _ _ _) 10 Aj3 (.cons .here rfl .nil)
  ·refine zw 0 ?_
   refine zw 1 ?_;refine zw 4 ?_;refine zw 5 ?_;refine Ag7 (rs:=[2,9]) (by kernel_rfl) (by simp) (by kernel_rfl) (fun m hm=>?_)
   simp only [List.mem_cons,List.not_mem_nil,or_false] at hm
   rcases hm with rfl | rfl
   ·refine Ab5 rfl (zF rfl Ba8) rfl rfl rfl (fun w hm=>Ao9 t.number ht.1 w) (Aa7 (.cons .here rfl .nil) (.cons .here rfl .nil) rfl ?_)
    refine zv 3 rfl (Val.build (parts:=[(0,.tmp 12),(1,.func 152)]) rfl AB5 AA7 rfl) ?_;refine Ag7 (rs:=[6,9]) (by kernel_rfl) (by simp) (by kernel_rfl) (fun m hm=>?_)
    simp only [List.mem_cons,List.not_mem_nil,or_false] at hm
    rcases hm with rfl | rfl
    ·refine Ab5 rfl (zF rfl Ba8) rfl rfl rfl (fun w hm=>Ao9 t.text ht.2 w) (Aa7 (.cons .here rfl .nil) (.cons .here rfl .nil) rfl ?_)
     refine zv 7 rfl (Val.build (parts:=[(0,.tmp 16),(1,.func 153)]) rfl AB5 AA7 rfl) ?_;refine zv 8 rfl (Val.build (parts:=[(0,.tmp 13),(1,.tmp 17)]) rfl AG9 AP1 rfl) ?_;refine zA 9 ?_;refine Ac6 rfl (New.alloc AG9) rfl rfl rfl (fun b5=>(Aa7 (.cons .here rfl (.cons .here rfl .nil)) (.cons (.there .here) rfl .nil) rfl ?_))
     refine zt ?_;refine zB 10 ?_;refine Ac0 rfl (Sto.store rfl rfl .here BN0 rfl rfl) rfl rfl (Ab9 ?_)
     refine zd ?_;exact Af1 b5 (Ac1 _) (Pick.refl _)
    refine Ac6 rfl (New.alloc AG9) rfl rfl rfl (fun b5=>(Aa7 (.cons .here rfl (.cons .here rfl .nil)) (.cons (.there .here) rfl .nil) rfl ?_))
    refine zA 6 ?_;refine Ab5 rfl (zF rfl Ba8) rfl rfl rfl (fun w hm=>Ao9 t.text ht.2 w) (Aa7 (.cons .here rfl (.cons .here rfl .nil)) (.cons .here rfl (.cons .here rfl .nil)) rfl ?_)
    refine zv 7 rfl (Val.build (parts:=[(0,.tmp 16),(1,.func 153)]) rfl AB5 AA7 rfl) ?_;refine zv 8 rfl (Val.build (parts:=[(0,.tmp 13),(1,.tmp 17)]) rfl AG9 AP1 rfl) ?_;refine zt ?_;refine zB 10 ?_;refine Ac0 rfl (Sto.store rfl rfl .here BN0 rfl rfl) rfl rfl (Ab9 ?_)
    refine zd ?_;exact Af1 b5 (zS 5 rfl (zS 18 rfl (zS 17 rfl (zS 16 rfl (zS 13 rfl (zS 12 rfl (zS 15 rfl (zS 14 rfl (zS 11 rfl (zS 10 rfl (Sub.skip rfl (Sub.skip rfl (Sub.skip rfl (Sub.skip rfl (Sub.skip rfl (Sub.skip rfl (Sub.skip rfl (Sub.skip rfl (Sub.skip rfl (Sub.skip rfl (Ac1 _))))))))))))))))))))) (.cons .here rfl (.cons .here rfl .nil))
   refine Ac6 rfl (New.alloc AG9) rfl rfl rfl (fun b5=>(Aa7 (.cons .here rfl (.cons .here rfl .nil)) (.cons (.there .here) rfl .nil) rfl ?_))
   refine zA 2 ?_;refine Ab5 rfl (zF rfl Ba8) rfl rfl rfl (fun w hm=>Ao9 t.number ht.1 w) (Aa7 (.cons .here rfl (.cons .here rfl .nil)) (.cons .here rfl (.cons .here rfl .nil)) rfl ?_)
   refine zv 3 rfl (Val.build (parts:=[(0,.tmp 12),(1,.func 152)]) rfl AB5 AA7 rfl) ?_;refine zA 6 ?_;refine Ab5 rfl (zF rfl Ba8) rfl rfl rfl (fun w hm=>Ao9 t.text ht.2 w) (Aa7 (.cons .here rfl (.cons .here rfl .nil)) (.cons .here rfl (.cons .here rfl .nil)) rfl ?_)
   refine zv 7 rfl (Val.build (parts:=[(0,.tmp 16),(1,.func 153)]) rfl AB5 AA7 rfl) ?_;refine zv 8 rfl (Val.build (parts:=[(0,.tmp 13),(1,.tmp 17)]) rfl AG9 AP1 rfl) ?_;refine zt ?_;refine zB 10 ?_;refine Ac0 rfl (Sto.store rfl rfl .here BN0 rfl rfl) rfl rfl (Ab9 ?_)
   refine zd ?_;exact Af1 b5 (zS 5 rfl (zS 18 rfl (zS 17 rfl (zS 16 rfl (zS 13 rfl (zS 12 rfl (zS 15 rfl (zS 14 rfl (zS 11 rfl (zS 10 rfl (Sub.skip rfl (Sub.skip rfl (Sub.skip rfl (Sub.skip rfl (Sub.skip rfl (Sub.skip rfl (Sub.skip rfl (Sub.skip rfl (Sub.skip rfl (Sub.skip rfl (Ac1 _))))))))))))))))))))) (.cons .here rfl (.cons .here rfl .nil))
  refine J1.out (fun b5=>?_)
  refine st ?_;refine RunC.label ?_;refine su ?_;refine lu (Aa2 rfl hv (by simp) Bs8 rfl) ?_;refine Ae5 (es.length) (fun k q=>(24,.int .i64 (k:Int))::(4,.int .u64 ((fitsL t 0 (es.take k):Nat):Int))::q) (fun _=>_) (fun _=>[]) (fun _=>True) trivial rfl (zE 24 rfl rfl (zE 4 rfl rfl (zS 3 rfl (zS 5 rfl (zS 22 rfl (zS 23 rfl (Sub.nil _))))))) (.cons .here rfl (.cons .here rfl .nil)) ?_;intro k kN kI;clear kI;refine st ?_;refine cn rfl ?_ ?_
  ·intro c0'
   have hk:k < es.length:=by omega
   obtain ⟨x,hx⟩:∃ x,es[k]=x:=⟨_,rfl⟩;have hxs:=hen x (hx ▸ List.getElem_mem hk);have h1:=BQ0 t (es.take k) 0;rw [List.length_take,Nat.zero_add,Nat.min_eq_left (by omega)] at h1;have h2:2 ^ k < 2 ^ 12:=Nat.pow_lt_pow_right (by decide) (by omega);refine st ?_;refine lv (Aa8 rfl rfl Cf8 (by omega) (by omega) (hS.ptrM hk)) ?_;refine lv (Ab0 rfl (fun w hm=>hS.loadX (by decide) hm (by simp) Cd6 hk hx)) ?_;refine zn (New.alloc Bl4) (fun b7=>?_)
   refine Aa9 (Sto.store rfl rfl .here Cd6 rfl rfl) rfl rfl ?_;refine su ?_
   refine Ab3 (dj:=32) (dp:=38) 6 rfl (fun g32=>by
     have g32':=g32;try simp only [nH] at g32'
     refine lv (Val.fieldAddr rfl BP6) ?_;refine lv (Ab6 rfl (.tail _ (.tail _ (.head _))) Ag4 rfl) ?_;refine lv (Val.fieldAddr rfl Bx7) ?_;refine Ac7 (Ab6 rfl (.head _) Ag4 rfl) rfl rfl rfl ?_;refine sv ?_;exact zs g32
   ) (fun g32=>by
     have g32':=g32;try simp only [nH] at g32'
     iterate 5 refine Ab8 rfl rfl rfl ?_
     refine sv ?_;exact zs g32
   ) ?_
   refine st ?_;refine cn rfl ?_ ?_
   ·intro c1'
    have hf:fitX t x=false:=by simp [fitX,c1']
    refine RunC.exit ?_;refine Al2 ?_;refine Ab1 ?_;refine st ?_;refine lv (Val.add rfl rfl (IntWalk.i64_in _ ⟨by omega,by omega⟩)) ?_;exact Ad0 (by omega) trivial rfl (zE 24 rfl rfl (zE 4 rfl (by rw [AN3 hk hx,hf];simp) (zS 3 rfl (zS 5 rfl (zS 22 rfl (zS 23 rfl (Sub.nil _))))))) (.cons (.there .here) rfl (.cons (.there .here) rfl .nil))
   intro c1';have hcol:t.colour=0∨t.colour=x.colour:=by omega
   refine su ?_;refine AE1 2 ?_;refine st ?_;refine RunC.cond rfl ?_ (fun h=>absurd h (by decide))
   intro c2;clear c2;refine st ?_;refine lv (Bj9 rfl rfl BR7 (by decide) (by decide) rfl) ?_;refine zn (New.alloc AB5) (fun b9=>?_)
   refine Aa9 (Sto.store rfl rfl .here Cd5 rfl rfl) rfl rfl ?_;refine st ?_;refine Ac4 8 Aj3 (.cons .here rfl (.cons .here rfl (.cons .here rfl (.cons .here rfl .nil)))) ?_;refine zw 0 ?_;refine zw 1 ?_;refine zw 2 ?_;refine zw 3 ?_;refine zw 4 ?_;refine zv 6 rfl (Val.nilIface (t:=pieceT _) (v:=pieceP _) rfl) ?_;refine zw 7 ?_;refine zA 5 ?_;refine Ab5 rfl (Ac5 rfl rfl CY1) rfl rfl rfl (fun w hm=>BY0 x w) (Aa7 (.cons .here rfl (.cons .here rfl (.cons .here rfl (.cons .here rfl .nil)))) (.cons .here rfl (.cons .here rfl (.cons .here rfl (.cons .here rfl .nil)))) rfl ?_)
   refine zt ?_;refine zB 8 ?_;refine Ab5 rfl (AR5 rfl rfl) rfl rfl rfl (fun w hm=>AW8 _ _ (by first | exact ht.1 | exact ht.2) (by first | exact hxs.1 | exact hxs.2) w) (Ab9 ?_)
   refine zp 9 ?_;refine zd ?_;refine st ?_;refine cn rfl ?_ ?_
   ·intro c3'
    have hf:fitX t x=false:=by simp [fitX,c3']
    refine RunC.exit ?_;refine Ak7 rfl ?_;refine su ?_;refine Ak7 rfl ?_;refine Al2 ?_;refine Ab1 ?_;refine st ?_;refine lv (Val.add rfl rfl (IntWalk.i64_in _ ⟨by omega,by omega⟩)) ?_;exact Ad0 (by omega) trivial rfl (zE 24 rfl rfl (zE 4 rfl (by rw [AN3 hk hx,hf];simp) (zS 3 rfl (zS 5 rfl (zS 22 rfl (zS 23 rfl (Sub.nil _))))))) (.cons (.there (.there .here)) rfl (.cons (.there (.there .here)) rfl .nil))
   intro c3';refine st ?_;refine Ac7 (Val.add rfl rfl (IntWalk.i64_in _ ⟨by decide,by decide⟩)) rfl rfl rfl ?_;refine vp rfl rfl rfl rfl ?_;refine RunL.nil ?_;refine Aj8 (zS 3 rfl (zS 4 rfl (zS 5 rfl (zS 6 rfl (zS 7 rfl (zS 22 rfl (zS 23 rfl (zS 24 rfl (zS 39 rfl (zS 40 rfl (Sub.nil _))))))))))) (.cons (.there .here) rfl (.cons (.there .here) rfl (.cons (.there .here) rfl .nil))) ?_;refine Ai7 ?_;refine st ?_;refine RunC.cond rfl ?_ (fun h=>absurd h (by decide))
   intro c2;clear c2;refine st ?_;refine lv (Bj9 rfl rfl BR7 (by decide) (by decide) rfl) ?_;refine zn (New.alloc AB5) (fun b9=>?_)
   refine Aa9 (Sto.store rfl rfl .here Cd5 rfl rfl) rfl rfl ?_;refine st ?_;refine Ac4 8 Aj3 (.cons .here rfl (.cons .here rfl (.cons .here rfl (.cons .here rfl .nil)))) ?_;refine zw 0 ?_;refine zw 1 ?_;refine zw 2 ?_;refine zw 3 ?_;refine zw 4 ?_;refine zv 6 rfl (Val.nilIface (t:=pieceT _) (v:=pieceP _) rfl) ?_;refine zw 7 ?_;refine zA 5 ?_;refine Ab5 rfl (Ac5 rfl rfl CY0) rfl rfl rfl (fun w hm=>BX9 x w) (Aa7 (.cons .here rfl (.cons .here rfl (.cons .here rfl (.cons .here rfl .nil)))) (.cons .here rfl (.cons .here rfl (.cons .here rfl (.cons .here rfl .nil)))) rfl ?_)
   refine zt ?_;refine zB 8 ?_;refine Ab5 rfl (AR5 rfl rfl) rfl rfl rfl (fun w hm=>AW8 _ _ (by first | exact ht.1 | exact ht.2) (by first | exact hxs.1 | exact hxs.2) w) (Ab9 ?_)
   refine zp 9 ?_;refine zd ?_;refine st ?_;refine cn rfl ?_ ?_
   ·intro c3'
    have hf:fitX t x=false:=by simp [fitX,c3']
    refine RunC.exit ?_;refine Ak7 rfl ?_;refine su ?_;refine Ak7 rfl ?_;refine Al2 ?_;refine Ab1 ?_;refine st ?_;refine lv (Val.add rfl rfl (IntWalk.i64_in _ ⟨by omega,by omega⟩)) ?_;exact Ad0 (by omega) trivial rfl (zE 24 rfl rfl (zE 4 rfl (by rw [AN3 hk hx,hf];simp) (zS 3 rfl (zS 5 rfl (zS 22 rfl (zS 23 rfl (Sub.nil _))))))) (.cons (.there (.there .here)) rfl (.cons (.there (.there .here)) rfl .nil))
   intro c3';refine st ?_;refine Ac7 (Val.add rfl rfl (IntWalk.i64_in _ ⟨by decide,by decide⟩)) rfl rfl rfl ?_;refine vp rfl rfl rfl rfl ?_;refine RunL.nil ?_;refine Aj8 (zS 3 rfl (zS 4 rfl (zS 5 rfl (zS 6 rfl (zS 7 rfl (zS 22 rfl (zS 23 rfl (zS 24 rfl (zS 39 rfl (zS 40 rfl (Sub.nil _))))))))))) (.cons (.there .here) rfl (.cons (.there .here) rfl (.cons (.there .here) rfl .nil))) ?_;refine Ai7 ?_;refine st ?_;refine RunC.cond rfl (fun h=>absurd h (by decide)) ?_;intro c2;clear c2;refine RunC.exit ?_;refine su ?_;refine Ab1 ?_;refine RunE.next ?_;refine RunC.region ?_;have hf:fitX t x=true:=by (have q1:suitsX t.number x.number=true:=(by assumption);have q2:suitsX t.text x.title=true:=(by assumption);simp [fitX,q1,q2,hcol])
   refine st ?_;refine lv (AI7 (b:=k) rfl rfl (by show k≤64;omega) (u64_in (n:=2 ^ k) (by omega))) ?_;refine zn (New.buildSlice (parts:=[(0,.tmp 54),(1,.tmp 56)]) rfl AF1 AU4 rfl rfl rfl rfl) (fun b57=>?_)
   refine zc (zF rfl Cp6) (fun w hm=>AE7 (fitsL t 0 (es.take k)) (2 ^ k) (by omega) (by omega) b57 w (hm.at (.head _))) ?_;refine lv (Val.add rfl rfl (IntWalk.i64_in _ ⟨by omega,by omega⟩)) ?_;exact Ad0 (by omega) trivial rfl (zE 24 rfl rfl (zE 4 rfl (by rw [AN3 hk hx,hf];simp) (zS 3 rfl (zS 5 rfl (zS 22 rfl (zS 23 rfl (Sub.nil _))))))) (.cons (.there (.there .here)) rfl (.cons (.there (.there .here)) rfl .nil))
  intro c0';obtain rfl:k=es.length:=by omega
  simp only [List.take_length];refine RunC.exit ?_;refine su ?_;refine Ab1 ?_;refine su ?_;refine Ar3 ?_;exact Aa4 (.r1 rfl (.tmp rfl)) (by first | rfl | simp)
end Go.Proofs.YtnmkdiagbkkmaabGreatDoor
namespace Go.Hp
open Go Go.Eng Go.Pw1
def dig36:Str:=[48,49,50,51,52,53,54,55,56,57,97,98,99,100,101,102,103,104,105,106,107,108,109,110,111,112,113,114,115,116,117,118,119,120,121,122]
def dig200:Str:=[48,48,48,49,48,50,48,51,48,52,48,53,48,54,48,55,48,56,48,57,49,48,49,49,49,50,49,51,49,52,49,53,49,54,49,55,49,56,49,57,50,48,50,49,50,50,50,51,50,52,50,53,50,54,50,55,50,56,50,57,51,48,51,49,51,50,51,51,51,52,51,53,51,54,51,55,51,56,51,57,52,48,52,49,52,50,52,51,52,52,52,53,52,54,52,55,52,56,52,57,53,48,53,49,53,50,53,51,53,52,53,53,53,54,53,55,53,56,53,57,54,48,54,49,54,50,54,51,54,52,54,53,54,54,54,55,54,56,54,57,55,48,55,49,55,50,55,51,55,52,55,53,55,54,55,55,55,56,55,57,56,48,56,49,56,50,56,51,56,52,56,53,56,54,56,55,56,56,56,57,57,48,57,49,57,50,57,51,57,52,57,53,57,54,57,55,57,56,57,57]
theorem BY8:dig200.length=200:=by kernel_rfl
theorem Bt3:(List.range 100).all (fun n=>if n < 10 then decide ((dig36.drop n).take 1=itoa n) else decide ((dig200.drop (2 * n)).take 2=itoa n))=true:=by kernel_rfl
theorem Dc6 {n:Nat} (h:n < 10):(dig36.drop n).take (n + 1 - n)=itoa n:=by
  have:=List.all_eq_true.1 Bt3 n (List.mem_range.2 (by omega))
  rw [if_pos h] at this;rw [Nat.add_sub_cancel_left];exact of_decide_eq_true this
theorem Dc5 {n:Nat} (h:¬ n < 10) (h2:n < 100):(dig200.drop (n * 2)).take (n * 2 + 2 - n * 2)=itoa n:=by
  have:=List.all_eq_true.1 Bt3 n (List.mem_range.2 h2)
  rw [if_neg h] at this;rw [Nat.add_sub_cancel_left,Nat.mul_comm];exact of_decide_eq_true this
theorem AI1 (n:Nat):(itoa n).length≤2:=by unfold itoa;split <;> simp
def esX (m:MxA):List En:=entriesX (m.bxs.map (·.bx))
def enK (m:MxA) (k:Nat):List En:=entriesX ((m.bxs.take k).map (·.bx))
theorem Bp7 {m:MxA} {k:Nat} (hk:k < m.bxs.length) {x:BxA} (hx:m.bxs[k]=x):enK m (k + 1)=enK m k++boxEn x.bx.colour 0 x.bx.titles:=by
  unfold enK;rw [List.take_succ_eq_append_getElem hk,List.map_append,hx];exact By7 _ _
theorem Cs5 (m:MxA):enK m m.bxs.length=esX m:=by unfold enK esX;rw [List.take_length]
theorem CZ5 {m:MxA} (h:MSm m) (k:Nat):(enK m k).length≤k * 1000:=by
  unfold enK;rw [AD3];exact BF6 (fun x hx=>(h.ti x hx).n) k
theorem CE7 {l:List BxA} {x:BxA} (h:x∈l):x.bx.titles.length≤manyX (l.map (·.bx)):=by
  induction l with
  | nil=>cases h
  | cons y l ih =>
    have e:manyX ((y::l).map (·.bx))=y.bx.titles.length + manyX (l.map (·.bx)):=by simp [manyX]
    rw [e]
    rcases List.mem_cons.1 h with rfl | h
    · omega
    · have:=ih h;omega
theorem Ar1 {m:MxA} (h:mixedX m.pl=true):m.bxs.length≤4∧m.cards.length≤8∧(esX m).length≤12:=by
  unfold mixedX at h;simp only [Bool.and_eq_true] at h;obtain ⟨⟨⟨⟨a1,a2⟩,_⟩,a5⟩,_⟩:=h;have a3:(m.bxs.map (·.bx)).length≤4:=of_decide_eq_true a1;have a4:m.cards.length≤8:=of_decide_eq_true a2;have a6:manyX (m.bxs.map (·.bx))≤12:=of_decide_eq_true a5;rw [List.length_map] at a3;exact ⟨a3,a4,by unfold esX;rw [AD3];exact a6⟩
theorem BA6 {c:Int}:∀ {l:List Str} {i:Nat} {x:En},x∈boxEn c i l→x.number.length≤2∧x.title∈l
  | [],i,x,h=>by cases h
  | t::l,i,x,h=>by
    rcases List.mem_cons.1 h with rfl | h
    · exact ⟨AI1 _,by simp⟩
    · obtain ⟨h1,h2⟩:=BA6 h
      exact ⟨h1,List.mem_cons_of_mem _ h2⟩
theorem CI4 {m:MxA} (h:MSm m):∀ x∈esX m,x.number.length≤1000000∧x.title.length≤1000000:=fun x hx=>by
  unfold esX entriesX at hx;obtain ⟨b,hb,hx⟩:=List.mem_flatMap.1 hx;obtain ⟨y,hy,rfl⟩:=List.mem_map.1 hb;obtain ⟨h1,h2⟩:=BA6 hx;exact ⟨by omega,(h.ti y hy).t _ h2⟩
structure Hz where
  bh:Nat
  bm:Nat
  x:Eng.Own
  y:Eng.Own
abbrev HO (m:MxA):={ z:Hz // OwnOk 3 z.x (esX m).length ((esX m).map En.cells).flatten∧OwnOk 1 z.y (fsX m.pl).length (setsV (fsX m.pl)).flatten }
theorem Dj9 (t:En):t.cells.length=3:=rfl
theorem Dj8 (t:En):t.cells.all (·.oneCell')=true:=rfl
end Go.Hp
namespace Go.Proofs.YtnmkdiagbkkmaabGreatDoor
open Go Go.Eng Go.Hp Go.Pw1

set_option maxRecDepth 10000 in
theorem BE2 (n:Nat) (hn:n < 100) (W:World):Calls Tryz.prog 137 #[.int .i64 (n:Int)] W (Pure (.string (bs (itoa n))) W):=by
  refine Aa0 Tryz.func137 rfl rfl ?_;refine st ?_;refine cn rfl ?_ ?_
  ·intro c0'
   refine st ?_;refine lv (Val.add rfl rfl (IntWalk.i64_in _ ⟨by omega,by omega⟩)) ?_;refine lu (AS3 (l:=dig36) (a:=n) (b:=n + 1) rfl rfl rfl An7 (by omega) (by show n + 1≤36;omega)) ?_;exact Aa4 (.r1 rfl (.tmp rfl)) (by rw [Dc6 (by omega)])
  intro c0';refine st ?_;refine lv (BR8 (a:=n) (b:=2) (n * 2) rfl rfl rfl (Ap3 (by omega))) ?_;refine lv (BR8 (a:=n) (b:=2) (n * 2) rfl rfl rfl (Ap3 (by omega))) ?_;refine lv (Ah1 (a:=n * 2) (b:=2) (n * 2 + 2) rfl rfl rfl (Ap3 (by omega))) ?_;refine lu (AS3 (l:=dig200) (a:=n * 2) (b:=n * 2 + 2) rfl rfl rfl An7 (by omega) (by rw [BY8];omega)) ?_;exact Aa4 (.r1 rfl (.tmp rfl)) (by rw [Dc5 (by omega) hn])
theorem Bx4 (n:Nat) (hn:n < 100) (W:World):Calls Tryz.prog 91 #[.int .i64 (n:Int),.int .i64 10] W (Pure (.string (bs (itoa n))) W):=by
  refine Aa0 Tryz.func91 rfl rfl ?_;refine csr ?_;refine vp rfl rfl rfl rfl ?_;refine nnx ?_;refine RunC.seq ?_;refine csr ?_;refine vp rfl rfl rfl rfl ?_;refine vp rfl rfl rfl rfl ?_;refine nnx ?_;refine RunC.cond rfl ?_ (fun h=>absurd h (by simp))
  intro c0;clear c0;refine RunC.seq ?_;refine csr ?_
  iterate 3 refine vp rfl rfl rfl rfl ?_
  refine Ab3 (dj:=14) (dp:=17) 3 rfl (fun g14=>by
    have g14':=g14;try simp only [nH] at g14'
    iterate 3 refine vp rfl rfl rfl rfl ?_
    exact Af8 (Sub.cons rfl (Sub.skip rfl (Sub.skip rfl (Sub.skip rfl (Ah3 rfl (by rw [g14]) (Ac1 _)))))) (List.Sublist.refl _)
  ) (fun g14=>by
    have g14':=g14;try simp only [nH] at g14'
    refine Ab8 rfl rfl rfl ?_;refine Ab8 rfl rfl rfl ?_;refine vp rfl rfl rfl rfl ?_;exact Af8 (Sub.cons rfl (Sub.skip rfl (Sub.skip rfl (Sub.skip rfl (Ah3 rfl (by rw [g14]) (Ac1 _)))))) (List.Sublist.refl _)
  ) ?_
  refine nnx ?_;refine RunC.cond rfl ?_ (fun h=>absurd h (by simp;omega))
  intro c1;clear c1;refine csr ?_;refine vp rfl rfl rfl rfl ?_;refine Ab7 (Aq2 rfl CY7) rfl rfl rfl (fun w hm=>BE2 n hn w) ?_;refine vp rfl rfl rfl rfl ?_;refine nnx ?_;refine RunC.ret ?_;refine Ad2 ?_;refine Ad2 ?_;exact Aa4 (.r1 rfl (.tmp rfl)) (by first | rfl | simp)
theorem BG6 (n:Nat) (hn:n < 100) (W:World):Calls Tryz.prog 42 #[.int .i64 (n:Int)] W (Pure (.string (bs (itoa n))) W):=by
  refine Aa0 Tryz.func42 rfl rfl ?_;refine st ?_;refine zc (zF rfl Df5) (fun w hm=>Bx4 n hn w) ?_;exact Aa4 (.r1 rfl (.tmp rfl)) (by first | rfl | simp)
theorem BX5 (n:Nat) (hn:n < 100) (W:World):Calls Tryz.prog 15 #[.int .i64 (n:Int)] W (Pure (.string (bs (itoa n))) W):=by
  refine Aa0 Tryz.func15 rfl rfl ?_;refine st ?_;refine zc (zF rfl Di6) (fun w hm=>BG6 n hn w) ?_;exact Aa4 (.r1 rfl (.tmp rfl)) (by first | rfl | simp)
theorem AY2 (m:MxA) (hsm:MSm m) (W:World) (hM:MOk W m) (hX:mixedX m.pl=false):Calls Tryz.prog 43 #[m.v] W (Pure (.tuple #[.pointer none,.int .i64 1]) W):=by
  refine Aa0 Tryz.func43 rfl rfl ?_;refine st ?_;refine zn (New.box rfl) (fun b1=>?_)
  refine zc (zF rfl CM4) (fun w hm=>(by have h9:=AN0 m hsm w (hM.mono0 hm);rw [hX] at h9;exact h9)) ?_;refine RunC.cond rfl ?_ (fun h=>absurd h (by simp))
  intro c0;clear c0;refine su ?_;exact Aa4 (.r2 rfl (.tmp rfl) (.tmp rfl)) (by first | rfl | simp)
set_option maxHeartbeats 1000000 in
theorem Aw7 (m:MxA) (hsm:MSm m) (W:World) (hM:MOk W m) (hX:mixedX m.pl=true):Calls Tryz.prog 43 #[m.v] W
    (News (fun z:HO m=>.tuple #[.pointer (some ⟨z.1.bh,0,none⟩),.int .i64 0]) (fun z=>[(z.1.bh,.cells [.slice m.q m.bxs.length m.cap,.slice m.q2 m.cards.length m.cap2,.slice (ownQ z.1.x) (esX m).length (ownC z.1.x),.slice (ownQ z.1.y) (fsX m.pl).length (ownC z.1.y),.map (some z.1.bm)].toArray 121 (0,0)),(z.1.bm,mapG [])] ++
      (ownB 116 z.1.y (setsV (fsX m.pl)).flatten++(ownB 165 z.1.x ((esX m).map En.cells).flatten++[]))) W):=by
  obtain ⟨hb4,hc8,he12⟩:=Ar1 hX;have hen:=CI4 hsm;have hman:manyX (m.bxs.map (·.bx))=(esX m).length:=(AD3 _).symm;refine Aa0 Tryz.func43 rfl rfl ?_;refine st ?_;refine zn (New.box rfl) (fun b1=>?_)
  refine zc (zF rfl CM4) (fun w hm=>(by have h9:=AN0 m hsm w (hM.mono0 hm);rw [hX] at h9;exact h9)) ?_;refine RunC.cond rfl (fun h=>absurd h (by simp)) ?_;intro c0;clear c0;refine su ?_;refine zn AG6 (fun b15=>?_)
  refine lv (Val.build (parts:=[(0,.tmp 14),(3,.tmp 15)]) rfl Bl5 AP2 rfl) ?_;refine zn (New.box rfl) (fun b17=>?_)
  refine Ah4 (X:=Eng.Own) (n0:=[(b15,_),(b1,_)]) (m.bxs.length) (fun k x q=>(21,.int .i64 (k:Int))::q) (fun _ _=>_) (fun k x=>[(b17,.cells [.slice m.q m.bxs.length m.cap,.slice m.q2 m.cards.length m.cap2,ownV x (enK m k).length,.slice none 0 0,.map (some b15)].toArray 121 (0,0))]) (fun k x=>ownB 165 x ((enK m k).map En.cells).flatten++[]) (fun k x=>OwnOk 3 x (enK m k).length ((enK m k).map En.cells).flatten) none OwnOk.start rfl (zE 21 rfl rfl (zS 1 rfl (zS 4 rfl (zS 19 rfl (zS 20 rfl (Sub.nil _)))))) (.cons .here rfl (.cons .here rfl (.cons .here rfl (Pick.same rfl)))) ?_;intro k x kN kI;have hx1:=kI;refine st ?_;refine cn rfl ?_ ?_
  ·intro c1'
   have hk:k < m.bxs.length:=by omega
   obtain ⟨B,hB⟩:∃ B,m.bxs[k]=B:=⟨_,rfl⟩;have hBm:B∈m.bxs:=hB ▸ List.getElem_mem hk;have hBl:=CE7 hBm;have hBT:=hM.ti B hBm;refine st ?_;refine lv (Aa8 rfl rfl Bd6 (by omega) (by omega) (hM.bx.ptrM hk)) ?_;refine lv (Ab0 rfl (fun w hm=>hM.bx.loadX (by decide) hm (by simp) Cz3 hk hB)) ?_;refine zn (New.alloc Bl0) (fun b6=>?_)
   refine Aa9 (Sto.store rfl rfl .here Cz3 rfl rfl) rfl rfl ?_;refine su ?_;refine Ah4 (X:=Eng.Own) (n0:=[(b6,_),(b15,_),(b1,_)]) (B.bx.titles.length) (fun j y q=>(28,.int .i64 (j:Int))::q) (fun _ _=>_) (fun j y=>[(b17,.cells [.slice m.q m.bxs.length m.cap,.slice m.q2 m.cards.length m.cap2,ownV y (enK m k++boxEn B.bx.colour 0 (B.bx.titles.take j)).length,.slice none 0 0,.map (some b15)].toArray 121 (0,0))]) (fun j y=>ownB 165 y ((enK m k++boxEn B.bx.colour 0 (B.bx.titles.take j)).map En.cells).flatten++[]) (fun j y=>OwnOk 3 y (enK m k++boxEn B.bx.colour 0 (B.bx.titles.take j)).length ((enK m k++boxEn B.bx.colour 0 (B.bx.titles.take j)).map En.cells).flatten) x (by simpa [boxEn] using hx1) rfl (zE 28 rfl rfl (zS 1 rfl (zS 4 rfl (zS 6 rfl (zS 19 rfl (zS 20 rfl (zS 21 rfl (zS 26 rfl (zS 27 rfl (Sub.nil _)))))))))) (.cons (.there .here) (by simp [boxEn]) (.cons .here rfl (.cons .here rfl (.cons .here rfl (Pick.same (by simp [boxEn])))))) ?_;intro j y jN jI;have hy1:=jI;refine st ?_;refine cn rfl ?_ ?_
   ·intro c2'
    have hj:j < B.bx.titles.length:=by omega
    obtain ⟨S,hS⟩:∃ S,B.bx.titles[j]=S:=⟨_,rfl⟩;have hlen:(enK m k++boxEn B.bx.colour 0 (B.bx.titles.take j)).length≤100000:=by (rw [List.length_append,Bb7];have h9:=CZ5 hsm k;rw [List.length_take];omega)
    have hS2:enK m k++boxEn B.bx.colour 0 (B.bx.titles.take (j + 1))=(enK m k++boxEn B.bx.colour 0 (B.bx.titles.take j))++[⟨B.bx.colour,itoa (j + 1),S⟩]:=by rw [List.take_succ_eq_append_getElem hj,hS,Bj2,List.append_assoc];simp [Nat.min_eq_left (Nat.le_of_lt hj)]
    have hlen2:(enK m k++boxEn B.bx.colour 0 (B.bx.titles.take j)++[(⟨B.bx.colour,itoa (j + 1),S⟩:En)]).length=(enK m k++boxEn B.bx.colour 0 (B.bx.titles.take j)).length + 1:=by rw [List.length_append (bs:=[_])];rfl
    refine st ?_;refine lv (Aa8 rfl rfl Au5 (by omega) (by omega) (hBT.ptrM hj)) ?_;refine lv (Ab0 rfl (fun w hm=>Sl.loadM1 hBT (by decide) hm (by simp) AE3 hj (v:=.string (bs S)) (by simp [hS]))) ?_;refine Ac4 14 Aj3 (.cons .here rfl (.cons .here rfl (.cons .here rfl (.cons .here rfl .nil)))) ?_;refine zw 0 ?_;refine zw 1 ?_;refine zw 2 ?_;refine zw 3 ?_;refine zw 4 ?_;refine zw 5 ?_;refine zw 6 ?_;refine zw 7 ?_;refine zv 8 rfl (Val.add rfl rfl (IntWalk.i64_in _ ⟨by omega,by omega⟩)) ?_;refine zw 10 ?_;refine zA 9 ?_;refine Ab5 rfl (zF rfl By9) rfl rfl rfl (fun w hm=>BX5 (j + 1) (by omega) w) (Aa7 (.cons .here rfl (.cons .here rfl (.cons .here rfl (.cons .here rfl .nil)))) (.cons .here rfl (.cons .here rfl (.cons .here rfl (.cons .here rfl .nil)))) rfl ?_)
    refine zv 11 rfl (Val.build (parts:=[(0,.tmp 39),(1,.tmp 42),(2,.tmp 43)]) rfl Bl4 BV8 rfl) ?_;refine zA 12 ?_;refine Ac6 rfl (New.buildSlice (parts:=[(0,.tmp 44)]) rfl Cf8 Bl4 rfl rfl rfl rfl) rfl rfl rfl (fun b45=>(Aa7 (.cons .here rfl (.cons .here rfl (.cons .here rfl (.cons .here rfl (.cons .here rfl .nil))))) (.cons (.there .here) rfl (.cons (.there .here) rfl (.cons (.there .here) rfl (.cons (.there .here) rfl .nil)))) rfl ?_))
    refine zA 13 ?_;refine RunI.append (A:=[(b45,_),(b17,_),(b6,_),(b15,_),(b1,_)]) (B:=_) (x:=y) (ys:=(En.cells ⟨B.bx.colour,itoa (j + 1),S⟩)) rfl Dl1 rfl rfl rfl hy1 rfl (fun h=>by cases h) (fun w hm=>An1 (hm.at (.head _))) (Ar6 (Dj8 _)) (by simp only [maxLen];omega) (by omega) rfl (fun z46 hz46=>(Aa7 (.cons .here rfl (.cons .here rfl (.cons .here rfl (.cons .here rfl (.cons .here rfl .nil))))) (.cons .here rfl (.cons .here rfl (.cons .here rfl (.cons .here rfl (.cons .here rfl .nil))))) rfl ?_))
    refine zt ?_;refine zB 14 ?_;obtain ⟨bz46,cz46,rz46,rfl,lz461,lz462,lz463⟩:=hz46.has (by simp);refine Ai8 rfl (Aa3 rfl) rfl rfl rfl (Ab9 ?_)
    refine zp 15 ?_;refine zB 16 ?_;refine Ac0 rfl (Sto.store rfl rfl (.there .here) Bs8 rfl rfl) rfl rfl (Ab9 ?_)
    refine zd ?_;refine st ?_;refine lv (Val.add rfl rfl (IntWalk.i64_in _ ⟨by omega,by omega⟩)) ?_;exact Ad5 (some (bz46,cz46,rz46)) (by omega) (by rw [hS2,← AF7,hlen2];exact hz46) rfl (zE 28 rfl rfl (zS 1 rfl (zS 4 rfl (zS 6 rfl (zS 19 rfl (zS 20 rfl (zS 21 rfl (zS 26 rfl (zS 27 rfl (Sub.nil _)))))))))) (.cons (.there .here) (by rw [hS2,hlen2]) (.cons (.there .here) rfl (.cons (.there .here) rfl (.cons (.there .here) rfl (.cons (.there .here) (by rw [hS2,← AF7]) .nil)))))
   intro c2';obtain rfl:j=B.bx.titles.length:=by omega
   rw [List.take_length] at hy1;simp only [List.take_length];refine RunC.exit ?_;refine su ?_;refine Ab1 ?_;refine st ?_;refine lv (Val.add rfl rfl (IntWalk.i64_in _ ⟨by omega,by omega⟩)) ?_;exact Ad5 y (by omega) (by rw [Bp7 hk hB];exact hy1) rfl (zE 21 rfl rfl (zS 1 rfl (zS 4 rfl (zS 19 rfl (zS 20 rfl (Sub.nil _)))))) (.cons .here (by rw [Bp7 hk hB]) (.cons (.there .here) rfl (.cons (.there .here) rfl (Pick.skip (Pick.same (by rw [Bp7 hk hB]))))))
  intro c1';obtain rfl:k=m.bxs.length:=by omega
  rw [Cs5] at hx1;have y1:ownV x (esX m).length = .slice (ownQ x) (esX m).length (ownC x):=Ad9 hx1;simp only [Cs5,y1];refine RunC.exit ?_;refine su ?_;refine Ab1 ?_;refine su ?_;refine Ah4 (X:=Eng.Own) (n0:=[(b15,_),(b1,_)]) (m.cards.length) (fun l f q=>(54,.int .i64 (l:Int))::q) (fun _ _=>_) (fun l f=>[(b17,.cells [.slice m.q m.bxs.length m.cap,.slice m.q2 m.cards.length m.cap2,.slice (ownQ x) (esX m).length (ownC x),ownV f l,.map (some b15)].toArray 121 (0,0))]) (fun l f=>ownB 116 f (setsV ((m.cards.take l).map (fitsX m.pl))).flatten++(ownB 165 x ((esX m).map En.cells).flatten++[])) (fun l f=>OwnOk 1 f l (setsV ((m.cards.take l).map (fitsX m.pl))).flatten) none OwnOk.start rfl (zE 54 rfl rfl (zS 1 rfl (zS 4 rfl (zS 52 rfl (zS 53 rfl (Sub.nil _)))))) (.cons .here rfl (.cons .here rfl (.cons .here rfl (Pick.same rfl)))) ?_;intro l f lN lI;have hf1:=lI;refine st ?_;refine cn rfl ?_ ?_
  ·intro c3'
   have hl:l < m.cards.length:=by omega
   obtain ⟨c,hc⟩:∃ c,m.cards[l]=c:=⟨_,rfl⟩;have hct:=hsm.tx c (hc ▸ List.getElem_mem hl);have hS3:(setsV ((m.cards.take (l + 1)).map (fitsX m.pl))).flatten=(setsV ((m.cards.take l).map (fitsX m.pl))).flatten++[.int .u64 ((fitsX m.pl c:Nat):Int)]:=by rw [List.take_succ_eq_append_getElem hl,hc,List.map_append];simp [setsV]
   refine st ?_;refine lv (Aa8 rfl rfl AT1 (by omega) (by omega) (hM.cd.ptrM hl)) ?_;refine lv (Ab0 rfl (fun w hm=>hM.cd.loadX (by decide) hm (by simp) Cz2 hl hc)) ?_;refine zn (New.alloc BC5) (fun b10=>?_)
   refine Aa9 (Sto.store rfl rfl .here Cz2 rfl rfl) rfl rfl ?_;refine st ?_;refine Ac4 10 Aj3 (.cons .here rfl (.cons .here rfl (.cons .here rfl (.cons .here rfl .nil)))) ?_;refine zw 0 ?_;refine zw 1 ?_;refine zw 2 ?_;refine zw 3 ?_;refine zw 4 ?_;refine zw 5 ?_;refine zw 6 ?_;refine zA 7 ?_;refine Ab5 rfl (zF rfl Df4) rfl rfl rfl (fun w hm=>Cp3 c hct (esX m) he12 hen b17 _ _ _ _ (ownQ x) (ownK x) (ownC x) w (hm.at (.tail _ (.head _))) (Ar5 Dj9 (by decide) hx1 (fun b o h=>hm.at (.tail _ (.tail _ (.tail _ (.tail _ ((by first | exact List.mem_append_right _ (List.mem_append_left _ h) | exact List.mem_append_right _ (List.mem_append_right _ (List.mem_append_left _ h))))))))))) (Aa7 (.cons .here rfl (.cons .here rfl (.cons .here rfl (.cons .here rfl .nil)))) (.cons .here rfl (.cons .here rfl (.cons .here rfl (.cons .here rfl .nil)))) rfl ?_)
   refine zA 8 ?_;refine Ac6 rfl (New.buildSlice (parts:=[(0,.tmp 65)]) rfl AF1 AU4 rfl rfl rfl rfl) rfl rfl rfl (fun b66=>(Aa7 (.cons .here rfl (.cons .here rfl (.cons .here rfl (.cons .here rfl (.cons .here rfl .nil))))) (.cons (.there .here) rfl (.cons (.there .here) rfl (.cons (.there .here) rfl (.cons (.there .here) rfl .nil)))) rfl ?_))
   refine zA 9 ?_;refine RunI.append (A:=[(b66,_),(b10,_),(b17,_),(b15,_),(b1,_)]) (B:=_) (x:=f) (ys:=[.int .u64 ((fitsX m.pl c:Nat):Int)]) rfl CO3 rfl rfl rfl hf1 rfl (fun h=>by cases h) (fun w hm=>An1 (hm.at (.head _))) (Ar6 rfl) (by simp only [maxLen];omega) (by omega) rfl (fun z67 hz67=>(Aa7 (.cons .here rfl (.cons .here rfl (.cons .here rfl (.cons .here rfl (.cons .here rfl .nil))))) (.cons .here rfl (.cons .here rfl (.cons .here rfl (.cons .here rfl (.cons .here rfl .nil))))) rfl ?_))
   refine zt ?_;refine zB 10 ?_;obtain ⟨bz67,cz67,rz67,rfl,lz671,lz672,lz673⟩:=hz67.has (by omega);refine Ai8 rfl (Aa3 rfl) rfl rfl rfl (Ab9 ?_)
   refine zp 11 ?_;refine zB 12 ?_;refine Ac0 rfl (Sto.store rfl rfl (.there (.there .here)) Bf2 rfl rfl) rfl rfl (Ab9 ?_)
   refine zd ?_;refine st ?_;refine lv (Val.add rfl rfl (IntWalk.i64_in _ ⟨by omega,by omega⟩)) ?_;exact Ad5 (some (bz67,cz67,rz67)) (by omega) (by rw [hS3];exact hz67) rfl (zE 54 rfl rfl (zS 1 rfl (zS 4 rfl (zS 52 rfl (zS 53 rfl (Sub.nil _)))))) (.cons (.there (.there .here)) rfl (.cons (.there (.there .here)) rfl (.cons (.there (.there .here)) rfl (.cons (.there (.there .here)) (by rw [hS3]) (Pick.skip (Pick.skip (Pick.refl _)))))))
  intro c3';obtain rfl:l=m.cards.length:=by omega
  refine RunC.exit ?_;refine su ?_;refine Ab1 ?_;refine st ?_;refine RunC.ret ?_;rw [List.take_length] at hf1;have y2:ownV f m.cards.length = .slice (ownQ f) (fsX m.pl).length (ownC f):=by rw [Ad9 hf1];simp [fsX,MxA.pl]
  simp only [List.take_length,y2];exact RunE.ret (chg:=[]) (.r2 rfl (.tmp rfl) (.tmp rfl)) (fun _ hm=>⟨⟨⟨b17,b15,x,f⟩,hx1,(by rw [show (fsX m.pl).length=m.cards.length by simp [fsX,MxA.pl]];exact hf1)⟩,rfl,hm.pick (.cons .here rfl (.cons .here rfl (Pick.skip (Pick.refl _))))⟩)
end Go.Proofs.YtnmkdiagbkkmaabGreatDoor
namespace Go.Proofs.YtnmkdiagbkkmaabGreatDoor
open Go Go.Eng
theorem Bi7:Enters Tryz.prog 86:=Aa1 Tryz.func86 (by kernel_rfl) rfl
theorem CM7:Enters Tryz.prog 87:=Aa1 Tryz.func87 (by kernel_rfl) rfl
theorem By0:fieldB Tryz.prog 121 0=some 0:=by kernel_rfl
instance:Fld Tryz.prog 121 0 0:=⟨By0⟩
theorem Cp1:fieldB Tryz.prog 121 3=some 4:=by kernel_rfl
instance:Fld Tryz.prog 121 3 4:=⟨Cp1⟩
theorem Bw3:Keyed Tryz.prog 119 159 3:=⟨by kernel_rfl,by kernel_rfl,by kernel_rfl,fun a b c d=>by kernel_rfl⟩
theorem Bg7:placesB Tryz.prog 159=some [(0,1),(1,1)]:=by kernel_rfl
theorem Aw3:tyB Tryz.prog 110=some (false,1):=by kernel_rfl
instance:Tyc Tryz.prog 110 false 1:=⟨Aw3⟩
theorem Cd9:tyB Tryz.prog 113=some (false,1):=by kernel_rfl
instance:Tyc Tryz.prog 113 false 1:=⟨Cd9⟩
theorem Cd8:tyB Tryz.prog 119=some (false,1):=by kernel_rfl
instance:Tyc Tryz.prog 119 false 1:=⟨Cd8⟩
theorem CO8:zeroV Tryz.prog 3=some (.int .i64 0):=by kernel_rfl
theorem BM2:zeroB Tryz.prog 159=some [.int .i64 0,.int .u64 0]:=by kernel_rfl
end Go.Proofs.YtnmkdiagbkkmaabGreatDoor
namespace Go.Hp
open Go Go.Eng Go.Pw1
theorem CO0 (ne:Nat):∀ (fs:List Nat) (u:Nat),cntL ne fs u≤ne ^ fs.length
  | [],_=>Nat.le_refl _
  | f::fs,u=>by
    unfold cntL
    have key:∀ l:List Nat,(l.map fun i=>if free f u i then cntL ne fs (u ||| 2 ^ i) else 0).sum≤l.length * ne ^ fs.length:=by
      intro l
      induction l with
      | nil=>simp
      | cons a l ih =>
        rw [List.map_cons,List.sum_cons,List.length_cons,Nat.add_mul,Nat.one_mul,Nat.add_comm];refine Nat.add_le_add ih ?_
        split
        · exact CO0 ne fs _
        · exact Nat.zero_le _
    have:=key (List.range ne)
    rw [List.length_range] at this;rw [List.length_cons,Nat.pow_succ,Nat.mul_comm];exact this
theorem Ct6 {ne:Nat} {fs:List Nat} (h1:ne≤12) (h2:fs.length≤8) (u:Nat):cntL ne fs u≤429981696:=by
  refine Nat.le_trans (CO0 ne fs u) ?_;refine Nat.le_trans (Nat.pow_le_pow_left h1 _) ?_;exact Nat.le_trans (Nat.pow_le_pow_right (by decide) h2) (by decide)
def psum (ne f:Nat) (fs:List Nat) (u k:Nat):Nat:=((List.range k).map fun i=>if free f u i then cntL ne fs (u ||| 2 ^ i) else 0).sum
theorem CL4 (ne f:Nat) (fs:List Nat) (u k:Nat):psum ne f fs u (k + 1)=psum ne f fs u k + if free f u k then cntL ne fs (u ||| 2 ^ k) else 0:=by
  unfold psum;rw [List.range_succ,List.map_append,List.sum_append];simp
theorem AX7 (ne f:Nat) (fs:List Nat) (u k:Nat):∀ j,psum ne f fs u k≤psum ne f fs u (k + j)
  | 0=>Nat.le_refl _
  | j + 1=>by
    have:=AX7 ne f fs u k j
    rw [show k + (j + 1)=(k + j) + 1 by omega,CL4];omega
theorem BO2 (ne f:Nat) (fs:List Nat) (u:Nat):psum ne f fs u ne=cntL ne (f::fs) u:=rfl
def GoodM (ne:Nat) (fs:List Nat) (l:List ((Nat×Nat)×Value)):Prop:=∀ e∈l,e.2 = .int .i64 ((cntL ne (fs.drop e.1.1) e.1.2:Nat):Int)
def ExtM (ne:Nat) (fs:List Nat) (a:Nat) (l l':List ((Nat×Nat)×Value)):Prop:=GoodM ne fs l'∧∃ e,l'=l++e∧∀ x∈e,a≤x.1.1
theorem ExtM.refl {ne a:Nat} {fs:List Nat} {l:List ((Nat×Nat)×Value)} (h:GoodM ne fs l):ExtM ne fs a l l:=⟨h,[],by simp,fun x hx=>by cases hx⟩
theorem ExtM.trans {ne a:Nat} {fs:List Nat} {l l' l'':List ((Nat×Nat)×Value)} (h:ExtM ne fs a l l') (h':ExtM ne fs a l' l''):ExtM ne fs a l l'':=by
  obtain ⟨_,e,rfl,h2⟩:=h;obtain ⟨g,e',rfl,h4⟩:=h';refine ⟨g,e++e',by simp,fun x hx=>?_⟩
  rcases List.mem_append.1 hx with hx | hx
  · exact h2 x hx
  · exact h4 x hx
theorem ExtM.put {ne a u:Nat} {fs:List Nat} {l l':List ((Nat×Nat)×Value)} (h:ExtM ne fs (a + 1) l l') {v:Value} (hv:v = .int .i64 ((cntL ne (fs.drop a) u:Nat):Int)):ExtM ne fs a l (l'++[((a,u),v)]):=by
  obtain ⟨h1,e,rfl,h3⟩:=h;refine ⟨fun x hx=>?_,e++[((a,u),v)],by simp,fun x hx=>?_⟩
  · rcases List.mem_append.1 hx with hx | hx
    · exact h1 x hx
    · cases List.mem_singleton.1 hx;exact hv
  · rcases List.mem_append.1 hx with hx | hx
    · have:=h3 x hx;omega
    · cases List.mem_singleton.1 hx;exact Nat.le_refl _
theorem ExtM.absent {ne a u:Nat} {fs:List Nat} {l l':List ((Nat×Nat)×Value)} (h:ExtM ne fs (a + 1) l l') (h0:gFind l (a,u)=none):gIdx l' (a,u)=none:=by
  obtain ⟨_,e,rfl,h3⟩:=h;refine Cn1 fun x hx=>?_
  rcases List.mem_append.1 hx with hx | hx
  · exact BH0 h0 x hx
  · intro e1
    have:=h3 x hx
    rw [e1] at this;simp at this
    omega
theorem Cn0 {ne:Nat} {fs:List Nat} {l:List ((Nat×Nat)×Value)} (h:GoodM ne fs l) {a u:Nat} (hs:(gFind l (a,u)).isSome=true) {z:Value}:(gFind l (a,u)).getD z = .int .i64 ((cntL ne (fs.drop a) u:Nat):Int):=by
  obtain ⟨v,hv⟩:=Option.isSome_iff_exists.1 hs;rw [hv];exact h _ (Cn2 hv)
structure HpAt (W:World) (bh bm:Nat) (m:MxA) (nE:Nat) (qe:Option Addr) (ce:Nat) (fs:List Nat) (qf:Option Addr) (bf cf:Nat):Prop where
  v:W.heap[bh]? = some (.cells [.slice m.q m.bxs.length m.cap,.slice m.q2 m.cards.length m.cap2,.slice qe nE ce,.slice qf fs.length cf,.map (some bm)].toArray 121 (0,0))
  sl:Sl W qf bf 0 1 (setsV fs)
  len:fs.length=m.cards.length
  le:fs.length≤8
  ne:nE≤12
  lt:∀ f∈fs,f < 2 ^ nE
theorem Bv6 {W:World} {b bm:Nat} {c:Array Value} {T:TypeId} {f:Nat×Nat} {l:List ((Nat×Nat)×Value)} (h:W.heap[b]? = some (.cells c T f)) (hm:W.heap[bm]? = some (mapG l)):b ≠ bm:=fun e=>by
  rw [e,hm] at h
  cases h
theorem Cf5 {W:World} {q:Option Addr} {b o sz bm:Nat} {xs:List (List Value)} {l:List ((Nat×Nat)×Value)} (h:Sl W q b o sz xs) (hz:0 < sz) (hx:xs ≠ []) (hm:W.heap[bm]? = some (mapG l)):b ≠ bm:=fun e=>by
  cases xs with
  | nil=>exact hx rfl
  | cons x xs =>
    have h1:=h.cell 0 (by simp) 0 hz;have h2:=h.len x (by simp);rw [e] at h1;simp only [World.cell?,hm,mapG] at h1;simp at h1
    rw [h1] at h2;simp at h2
    omega
theorem CZ6 {fs:List Nat} {a:Nat} (h:a < fs.length):fs.drop a=fs[a]::fs.drop (a + 1):=List.drop_eq_getElem_cons h
end Go.Hp
namespace Go.Proofs.YtnmkdiagbkkmaabGreatDoor
open Go Go.Eng Go.Hp Go.Pw1

theorem AM5 (d:Nat):∀ (a:Nat) (m:MxA) (nE:Nat) (qe:Option Addr) (ce:Nat) (fs:List Nat) (qf:Option Addr) (bf cf:Nat) (_hd:a + d=fs.length) (u:Nat) (_hu:u < 2 ^ 12) (l:List ((Nat×Nat)×Value)) (_hg:GoodM nE fs l) (bh bm b1 b3:Nat) (W:World) (_hH:HpAt W bh bm m nE qe ce fs qf bf cf) (_hm:W.heap[bm]? = some (mapG l))
    (_h1:W.heap[b1]? = some (.cells [.pointer (some ⟨bh,0,none⟩)].toArray 110 (0,0))) (_h3:W.heap[b3]? = some (.cells [.func (.func 86) #[] #[.pointer (some ⟨b1,0,none⟩),.pointer (some ⟨b3,0,none⟩)]].toArray 113 (0,0))),
    Calls Tryz.prog 86 #[.int .i64 (a:Int),.int .u64 (u:Int),.pointer (some ⟨b1,0,none⟩),.pointer (some ⟨b3,0,none⟩)] W (TurnsZ bm mapG (fun _=>.int .i64 ((cntL nE (fs.drop a) u:Nat):Int)) (ExtM nE fs a l) W):=by
  induction d with
  | zero =>
    intro a m nE qe ce fs qf bf cf hd u hu l hg bP bm bC bF W hH hm h1 h3;have hv:=hH.v;have hl8:=hH.le;have hlen:=hH.len;have n1:=Bv6 h1 hm;have n2:=Bv6 hv hm;refine Aj7 hm Tryz.func86 rfl rfl ?_;refine st ?_;refine lu (Aa2 rfl h1 (by simp [n1,n2]) Aw3 rfl) ?_;refine lu (Aa2 rfl hv (by simp [n1,n2]) Bm0 rfl) ?_;refine RunC.cond rfl ?_ (fun h=>absurd h (by simp;omega))
    intro c0;clear c0;refine su ?_;exact Bc6 l (ExtM.refl hg) rfl (.r1 rfl (.tmp rfl)) (by rw [List.drop_of_length_le (by omega)];rfl)
  | succ d ih =>
    intro a m nE qe ce fs qf bf cf hd u hu l hg bP bm bC bF W hH hm h1 h3;have hv:=hH.v;have hl8:=hH.le;have hlen:=hH.len;have hne:=hH.ne;have n1:=Bv6 h1 hm;have n2:=Bv6 hv hm;have n3:=Bv6 h3 hm;have ha:a < fs.length:=by omega
    obtain ⟨f,hf⟩:∃ f,fs[a]=f:=⟨_,rfl⟩;have hdr:fs.drop a=f::fs.drop (a + 1):=by rw [CZ6 ha,hf]
    have hfl:f < 2 ^ 12:=by
      have q1:=hH.lt f (hf ▸ List.getElem_mem ha);have q2:2 ^ nE≤2 ^ 12:=Nat.pow_le_pow_right (by decide) hne;omega
    have hfn:setsV fs ≠ []:=by
      intro e
      have:=congrArg List.length e
      simp [setsV] at this
      subst this;simp at ha
    have nf:=Cf5 hH.sl (by decide) hfn hm;have hal:=Cv3 f u;have hcl:∀ v,cntL nE (fs.drop (a + 1)) v≤429981696:=fun v=>Ct6 hne (by simp;omega) v
    have hca:cntL nE (fs.drop a) u≤429981696:=Ct6 hne (by simp;omega) u;refine Aj7 hm Tryz.func86 rfl rfl ?_;refine st ?_;refine lu (Aa2 rfl h1 (by simp [n1,n2,n3]) Aw3 rfl) ?_;refine lu (Aa2 rfl hv (by simp [n1,n2,n3]) Bm0 rfl) ?_;refine RunC.cond rfl (fun h=>absurd h (by simp;omega)) ?_;intro c0;clear c0;refine st ?_;refine lu (Aa2 rfl h1 (by simp [n1,n2,n3]) Aw3 rfl) ?_;refine lv (Aa2 rfl hv (by simp [n1,n2,n3]) Cd8 rfl) ?_;refine lv (Val.build (parts:=[(0,.tmp 24),(1,.tmp 25)]) rfl BM2 Bg7 rfl) ?_;refine lv (BL0 (a:=(a,u)) rfl rfl (fun w hm=>hm.at (.head _)) Bw3 CO8) ?_;refine cn rfl ?_ ?_
    ·intro c1'
     have hgf:=Cn0 (z:=.int .i64 0) hg c1';refine su ?_;exact Bc6 l (ExtM.refl hg) rfl (.r1 rfl (.tmp rfl)) hgf
    intro c1';have hab:gFind l (a,u)=none:=by simpa using c1'
    refine st ?_;refine lu (Aa2 rfl h1 (by simp [n1,n2,n3]) Aw3 rfl) ?_;refine lv (Aa2 rfl hv (by simp [n1,n2,n3]) Bf2 rfl) ?_;refine lv (Aa8 rfl rfl AF1 (by omega) (by omega) (hH.sl.ptrM ha)) ?_;refine lv (Ab0 rfl (fun w hm=>(Sl.mono1 hH.sl (by decide) hm (fun _=>nf)).loadM1 (by decide) (Mem.refl w) (by simp) Bf3 ha (v:=.int .u64 (f:Int)) (by simp [hf]))) ?_;refine lv (Val.andNot (a:=f) (b:=u) rfl rfl (by show _ < 18446744073709551616;omega) (by show _ < 18446744073709551616;omega) (u64_in (by omega))) ?_;refine lu (Aa2 rfl h1 (by simp [n1,n2,n3]) Aw3 rfl) ?_;refine lu (Aa2 rfl hv (by simp [n1,n2,n3]) Bs8 rfl) ?_;refine Ah4 (X:=List ((Nat×Nat)×Value)) (n0:=[]) (nE) (fun k x q=>(47,.int .i64 (k:Int))::(6,.int .i64 ((psum nE f (fs.drop (a + 1)) u k:Nat):Int))::q) (fun k x=>[(bm,mapG x)]) (fun k x=>[]) (fun k x=>[]) (fun k x=>ExtM nE fs (a + 1) l x) l (ExtM.refl hg) rfl (zE 47 rfl rfl (zE 6 rfl rfl (zS 0 rfl (zS 1 rfl (zS 2 rfl (zS 3 rfl (zS 9 rfl (zS 46 rfl (Sub.nil _))))))))) (Pick.same rfl) ?_;intro k x kN kI;have hxg:=kI;refine st ?_;refine cn rfl ?_ ?_
    ·intro c2'
     have hk:k < nE:=by omega
     have hps:=CL4 nE f (fs.drop (a + 1)) u k;have hpm:=AX7 nE f (fs.drop (a + 1)) u (k + 1) (nE - (k + 1));rw [show k + 1 + (nE - (k + 1))=nE by omega,BO2,← hdr] at hpm;have h2k:2 ^ k < 2 ^ 12:=Nat.pow_lt_pow_right (by decide) (by omega);have hpk:=AX7 nE f (fs.drop (a + 1)) u k 1;refine st ?_;refine Ab7 (Ac5 rfl rfl CM7) rfl rfl rfl (fun w hm=>Bx3 (andN f u) k (by omega) (by omega) w) ?_;refine st ?_;refine cn rfl ?_ ?_
     ·intro c3'
      have hfr:free f u k=true:=by (rw [AN9] at c3';exact c3')
      rw [hfr,if_pos rfl] at hps;have huk:=Nat.or_lt_two_pow hu h2k;refine Bk7 10 Aj3 .nil ?_;refine Ak8 (i:=0) rfl (by kernel_rfl) (by kernel_rfl) (fun c hck=>(Aa3 rfl)) rfl rfl rfl (fun _ _ _ h=>h) .nil rfl ?_;refine Ak8 (i:=1) rfl (by kernel_rfl) (by kernel_rfl) (fun c hck=>(Aa2 rfl h3 (Ay3 hck (by simp [n1,n2,n3])) Cd9 rfl)) rfl rfl rfl (fun _ _ _ h=>h) .nil rfl ?_;refine Ak8 (i:=2) rfl (by kernel_rfl) (by kernel_rfl) (fun c hck=>(Aa3 rfl)) rfl rfl rfl (fun _ _ _ h=>h) .nil rfl ?_;refine Ak8 (i:=3) rfl (by kernel_rfl) (by kernel_rfl) (fun c hck=>(Ah1 (a:=a) (b:=1) (a + 1) rfl rfl rfl (Ap3 (by omega)))) rfl rfl rfl (fun _ _ _ h=>h) .nil rfl ?_;refine Ak8 (i:=4) rfl (by kernel_rfl) (by kernel_rfl) (fun c hck=>(Aa3 rfl)) rfl rfl rfl (fun _ _ _ h=>h) .nil rfl ?_;refine Ak8 (i:=5) rfl (by kernel_rfl) (by kernel_rfl) (fun c hck=>(Aa3 rfl)) rfl rfl rfl (fun _ _ _ h=>h) .nil rfl ?_;refine Ak8 (i:=6) rfl (by kernel_rfl) (by kernel_rfl) (fun c hck=>(AI7 (b:=k) rfl rfl (by show k≤64;omega) (u64_in (n:=2 ^ k) (by omega)))) rfl rfl rfl (fun _ _ _ h=>h) .nil rfl ?_;refine zA 7 ?_;refine Ac6 rfl (New.buildSlice (parts:=[(0,.tmp 57),(1,.tmp 59)]) rfl AF1 AU4 rfl rfl rfl rfl) rfl rfl rfl (fun b60=>(Aa7 (.cons .here rfl .nil) .nil rfl ?_))
      refine zA 8 ?_;refine Ab5 rfl (zF rfl Cp6) rfl rfl rfl (fun w hm=>AE7 u (2 ^ k) hu h2k b60 w (hm.at (.tail _ (.head _)))) (Aa7 (.cons .here rfl .nil) (.cons .here rfl .nil) rfl ?_)
      refine zA 9 ?_;refine Be5 rfl (Ac5 rfl rfl Bi7) rfl rfl rfl (fun _=>.here) (fun w hm=>ih (a + 1) m nE qe ce fs qf bf cf (by omega) (u ||| 2 ^ k) huk x hxg.1 bP bm bC bF w ⟨hm.old_at hv (by simp [n2]),Sl.mono1 hH.sl (by decide) hm (fun _=>nf),hH.len,hH.le,hH.ne,hH.lt⟩ (hm.at (.head _)) (hm.old_at h1 (by simp [n1])) (hm.old_at h3 (by simp [n3]))) (fun x62 hx62=>(Aa7 (.cons .here rfl .nil) (.cons .here rfl .nil) rfl ?_))
      refine zt ?_;refine zo 10 rfl (Ah1 (a:=psum nE f (fs.drop (a + 1)) u k) (b:=cntL nE (fs.drop (a + 1)) (u ||| 2 ^ k)) (psum nE f (fs.drop (a + 1)) u k + cntL nE (fs.drop (a + 1)) (u ||| 2 ^ k)) rfl rfl rfl (Ap3 (by omega))) ?_;refine zp 11 ?_;refine zd ?_;refine st ?_;refine lv (Val.add rfl rfl (IntWalk.i64_in _ ⟨by omega,by omega⟩)) ?_;exact Ad5 x62 (by omega) (hxg.trans hx62) rfl (zE 47 rfl rfl (zE 6 rfl (by rw [hps]) (zS 0 rfl (zS 1 rfl (zS 2 rfl (zS 3 rfl (zS 9 rfl (zS 46 rfl (Sub.nil _))))))))) .nil
     intro c3';have hfr:free f u k=false:=by (rw [AN9] at c3';exact c3')
     rw [hfr] at hps;simp only [Bool.false_eq_true,if_false,Nat.add_zero] at hps;refine st ?_;refine lv (Val.add rfl rfl (IntWalk.i64_in _ ⟨by omega,by omega⟩)) ?_;exact Ad5 x (by omega) hxg rfl (zE 47 rfl rfl (zE 6 rfl (by rw [hps]) (zS 0 rfl (zS 1 rfl (zS 2 rfl (zS 3 rfl (zS 9 rfl (zS 46 rfl (Sub.nil _))))))))) .nil
    intro c2';have hkn:k=nE:=by omega
    simp only [hkn,BO2,← hdr];refine RunC.exit ?_;refine su ?_;refine Ab1 ?_;refine st ?_;refine lu (Aa2 rfl h1 (by simp [n1,n2,n3]) Aw3 rfl) ?_;refine lv (Aa2 rfl hv (by simp [n1,n2,n3]) Cd8 rfl) ?_;refine lv (Val.build (parts:=[(0,.tmp 69),(1,.tmp 70)]) rfl BM2 Bg7 rfl) ?_;refine Aa9 (BB6 (a:=(a,u)) rfl rfl rfl .here Bw3 (kI.absent hab)) rfl rfl ?_;refine su ?_;exact Bc6 (x++[((a,u),.int .i64 ((cntL nE (fs.drop a) u:Nat):Int))]) (ExtM.put kI rfl) rfl (.r1 rfl (.tmp rfl)) rfl
end Go.Proofs.YtnmkdiagbkkmaabGreatDoor
namespace Go.Proofs.YtnmkdiagbkkmaabGreatDoor
open Go Go.Eng
theorem By8:Enters Tryz.prog 38:=Aa1 Tryz.func38 (by kernel_rfl) rfl
theorem CM6:Enters Tryz.prog 89:=Aa1 Tryz.func89 (by kernel_rfl) rfl
theorem CQ4:Tryz.prog.underlying 118=some (.slice 116):=by kernel_rfl
theorem Cy1:zeroB Tryz.prog 113=some [.nilFunc]:=by kernel_rfl
end Go.Proofs.YtnmkdiagbkkmaabGreatDoor
namespace Go.Hp
open Go Go.Eng Go.Pw1
theorem CB9 (fs:List Nat):∀ x∈setsV fs,x.length=1:=fun x hx=>by
  obtain ⟨a,_,rfl⟩:=List.mem_map.1 hx;rfl
theorem CQ7 (fs:List Nat):(setsV fs).flatten.length=fs.length * 1:=Ak1 (f:=fun (x:Nat)=>[Value.int .u64 (x:Int)]) (fun _=>rfl) fs
theorem AF3 {fs:List Nat} {c v:Nat} (h:c < fs.length) {t:List Value}:paste ((setsV fs).flatten++t) c [.int .u64 (v:Int)]=some ((setsV (fs.set c v)).flatten++t):=by
  have:=AL9 (f:=fun (x:Nat)=>[Value.int .u64 (x:Int)]) (sz:=1) (fun _=>rfl) (a':=v) (j:=0) (vs:=[.int .u64 (v:Int)]) (t:=t) h rfl
  simpa [setsV] using this
theorem AU6 {fs:List Nat} {c e:Nat}:(setC fs c e).length=fs.length:=by simp [setC]
theorem CQ8 {fs:List Nat} {c e n:Nat} (hc:c < fs.length) (h:∀ f∈fs,f < 2 ^ n):∀ f∈setC fs c e,f < 2 ^ n:=fun f hf=>by
  rcases List.mem_or_eq_of_mem_set hf with h1 | h1
  · exact h f h1
  · subst h1
    rw [List.getD_eq_getElem?_getD,List.getElem?_eq_getElem hc,Option.getD_some];exact Nat.lt_of_le_of_lt Nat.and_le_left (h _ (List.getElem_mem hc))
theorem AV2 {ne:Nat} {fs:List Nat}:GoodM ne fs []:=fun e he=>by cases he
abbrev cntF (z:Nat×Nat):Value:=.func (.func 86) #[] #[.pointer (some ⟨z.1,0,none⟩),.pointer (some ⟨z.2,0,none⟩)]
abbrev cntB (bh:Nat) (z:Nat×Nat):Blks:=[(z.2,.cells [cntF z].toArray 113 (0,0)),(z.1,.cells [.pointer (some ⟨bh,0,none⟩)].toArray 110 (0,0))]
abbrev stB (fs:List Nat) (z:Nat×Nat×List Value):Blks:=[(z.1,.cells ((setsV fs).flatten++z.2.2).toArray 116 (0,0))]
theorem Cf0 {fs:List Nat} {z:Nat×Nat×List Value} {w:World} (h:w.heap[z.1]? = some (.cells ((setsV fs).flatten++z.2.2).toArray 116 (0,0))):Sl w (some ⟨z.1,0,none⟩) z.1 0 1 (setsV fs):=Sl.rowsR h (CB9 fs)
end Go.Hp
namespace Go.Proofs.YtnmkdiagbkkmaabGreatDoor
open Go Go.Eng Go.Hp Go.Pw1

theorem Bb6 (fs:List Nat) (hf:0 < fs.length) (hl:fs.length≤8) (q:Option Addr) (b o cap:Nat) (W:World) (hS:Sl W q b o 1 (setsV fs)):Calls Tryz.prog 89 #[.slice q fs.length cap] W (News (fun z:Nat×Nat×List Value=>.slice (some ⟨z.1,0,none⟩) fs.length z.2.1) (fun z=>stB fs z) W):=by
  obtain rfl:=hS.ptrM hf;refine Aa0 Tryz.func89 rfl rfl ?_;refine st ?_;refine lv (Az2 rfl CQ4) ?_;refine RunC.cond rfl (fun h=>absurd h (by simp)) ?_;intro c0;clear c0;refine st ?_;refine zn (Ap6 AF1) (fun b5=>?_)
  refine RunL.append (A:=[]) (B:=_) (x:=(some (b5,0,[]))) (ys:=(setsV fs).flatten) CO3 rfl rfl rfl OwnOk.empty (CQ7 fs) (fun h=>by cases h) (fun w hm=>(hS.mono (by decide) hm (by simp)).flat (by decide)) (AH7 (fun _=>rfl) _) (by simp only [maxLen];omega) (by omega) rfl (fun z7 hz7=>?_)
  obtain ⟨bz7,cz7,rz7,rfl,lz71,lz72,lz73⟩:=hz7.has (by omega);refine su ?_;exact RunE.ret (chg:=[]) (.r1 rfl (.tmp rfl)) (fun _ hm=>⟨(bz7,cz7,rz7),by simp only [ownV,Nat.zero_add],hm.pick (.cons .here rfl .nil)⟩)
theorem As6 (bh:Nat) (W:World):Calls Tryz.prog 38 #[.pointer (some ⟨bh,0,none⟩)] W (News cntF (cntB bh) W):=by
  refine Aa0 Tryz.func38 rfl rfl ?_;refine st ?_;refine zn (New.box rfl) (fun b1=>?_)
  refine zn (New.alloc Cy1) (fun b3=>?_)
  refine Aa9 (Sto.store rfl rfl .here Cd9 rfl rfl) rfl rfl ?_;refine su ?_;exact RunE.ret (chg:=[]) (.r1 rfl (.tmp rfl)) (fun _ hm=>⟨(b1,b3),rfl,hm.pick (.cons .here rfl (.cons .here rfl .nil))⟩)
theorem BE3 (m:MxA) (nE:Nat) (qe:Option Addr) (ce:Nat) (fs:List Nat) (qf:Option Addr) (bf cf:Nat) (c e:Nat) (hc:c < fs.length) (he:e < nE) (bh bk:Nat) (W:World) (hH:HpAt W bh bk m nE qe ce fs qf bf cf) :
    Calls Tryz.prog 40 #[.pointer (some ⟨bh,0,none⟩),.int .i64 (c:Int),.int .i64 (e:Int)] W (Pure (.int .i64 ((shareL nE fs c e:Nat):Int)) W):=by
  have hv:=hH.v;have hl8:=hH.le;have hne:=hH.ne;have h2e:2 ^ e < 2 ^ 12:=Nat.pow_lt_pow_right (by decide) (by omega);obtain ⟨f,hf⟩:∃ f,fs[c]=f:=⟨_,rfl⟩
  have hfl:f < 2 ^ 12:=by
    have q1:=hH.lt f (hf ▸ List.getElem_mem hc);have q2:2 ^ nE≤2 ^ 12:=Nat.pow_le_pow_right (by decide) hne;omega
  have hfe:f &&& 2 ^ e≤f:=Nat.and_le_left
  have hset:fs.set c (f &&& 2 ^ e)=setC fs c e:=by
    unfold setC;rw [List.getD_eq_getElem?_getD,List.getElem?_eq_getElem hc,Option.getD_some,hf]
  refine Aa0 Tryz.func40 rfl rfl ?_;refine st ?_;refine Ao6 (X:=Nat×Nat×(Nat×Nat×List Value)) 14 (n0:=[]) (fun y q=>(7,.pointer (some ⟨y.1,0,none⟩))::q) (fun y=>[]) (fun y=>[(y.1,.cells [.slice m.q m.bxs.length m.cap,.slice m.q2 m.cards.length m.cap2,.slice qe nE ce,.slice (some ⟨y.2.2.1,0,none⟩) fs.length y.2.2.2.1,.map (some y.2.1)].toArray 121 (0,0)),(y.2.1,mapG []),(y.2.2.1,.cells ((setsV fs).flatten++y.2.2.2.2).toArray 116 (0,0))]) (fun y=>[]) (fun y=>True) Aj3 .nil (zS 0 rfl (zS 1 rfl (zS 2 rfl (Sub.nil _)))) .nil ?_ ?_
  ·refine va 0 rfl (Aa3 rfl) rfl rfl rfl .nil rfl ?_
   refine va 1 rfl (Aa3 rfl) rfl rfl rfl .nil rfl ?_;refine va 2 rfl (Val.fieldAddr rfl By0) rfl rfl rfl .nil rfl ?_;refine va 3 rfl (Ag9 rfl hv (by simp) Cd2 rfl) rfl rfl rfl .nil rfl ?_;refine va 4 rfl (Aa3 rfl) rfl rfl rfl .nil rfl ?_;refine va 5 rfl (Aa3 rfl) rfl rfl rfl .nil rfl ?_;refine va 6 rfl (Val.fieldAddr rfl Bx9) rfl rfl rfl .nil rfl ?_;refine va 7 rfl (Aa2 rfl hv (by simp) Bs8 rfl) rfl rfl rfl .nil rfl ?_;refine va 8 rfl (Aa3 rfl) rfl rfl rfl .nil rfl ?_;refine va 9 rfl (Aa3 rfl) rfl rfl rfl .nil rfl ?_;refine va 10 rfl (Val.fieldAddr rfl Bx8) rfl rfl rfl .nil rfl ?_;refine va 11 rfl (Aa2 rfl hv (by simp) Bf2 rfl) rfl rfl rfl .nil rfl ?_;refine Ag7 (rs:=[12,13]) (by kernel_rfl) (by simp) (by kernel_rfl) (fun m hm=>?_)
   simp only [List.mem_cons,List.not_mem_nil,or_false] at hm
   rcases hm with rfl | rfl
   ·refine AI8 rfl (zF rfl CM6) rfl rfl rfl (fun w hm=>Bb6 fs (by omega) hl8 qf bf 0 cf w (hH.sl.mono (by decide) hm (by simp))) (fun b20=>(Aa7 (.cons .here rfl .nil) .nil rfl ?_))
    refine zA 13 ?_;refine Ac6 rfl AG6 rfl rfl rfl (fun b21=>(Aa7 (.cons .here rfl (.cons .here rfl .nil)) (.cons (.there .here) rfl .nil) rfl ?_))
    refine zt ?_;refine zo 14 rfl (Val.build (parts:=[(0,.tmp 11),(1,.tmp 15),(2,.tmp 20),(3,.tmp 21)]) rfl Bl5 AP2 rfl) ?_;refine zB 15 ?_;refine Ac6 rfl (New.box rfl) rfl rfl rfl (fun b23=>(Ab9 ?_))
    refine zp 16 ?_;refine zd ?_;exact Ai5 (b23,b21,b20) trivial rfl (zE 7 rfl rfl (zS 0 rfl (zS 1 rfl (zS 2 rfl (Sub.nil _))))) (.cons .here rfl (.cons .here rfl (.cons .here rfl .nil)))
   refine Ac6 rfl AG6 rfl rfl rfl (fun b21=>(Aa7 (.cons .here rfl .nil) .nil rfl ?_))
   refine zA 12 ?_;refine AI8 rfl (zF rfl CM6) rfl rfl rfl (fun w hm=>Bb6 fs (by omega) hl8 qf bf 0 cf w (hH.sl.mono (by decide) hm (by simp))) (fun b20=>(Aa7 (.cons .here rfl (.cons .here rfl .nil)) (.cons (.there .here) rfl .nil) rfl ?_))
   refine zt ?_;refine zo 14 rfl (Val.build (parts:=[(0,.tmp 11),(1,.tmp 15),(2,.tmp 20),(3,.tmp 21)]) rfl Bl5 AP2 rfl) ?_;refine zB 15 ?_;refine Ac6 rfl (New.box rfl) rfl rfl rfl (fun b23=>(Ab9 ?_))
   refine zp 16 ?_;refine zd ?_;exact Ai5 (b23,b21,b20) trivial rfl (zE 7 rfl rfl (zS 0 rfl (zS 1 rfl (zS 2 rfl (Sub.nil _))))) (.cons .here rfl (.cons (.there .here) rfl (.cons .here rfl .nil)))
  intro y yI;obtain ⟨b23,b21,b20⟩:=y;dsimp only;refine st ?_;refine Ac4 9 Aj3 (.cons .here rfl (.cons .here rfl (.cons .here rfl .nil))) ?_;refine zw 0 ?_;refine zw 1 ?_;refine zw 2 ?_;refine zw 3 ?_;refine zw 4 ?_;refine zv 5 rfl (Ab4 rfl rfl AF1 (by omega) (by omega)) ?_;refine zv 6 rfl (Ab0 rfl (fun w hm=>(Cf0 (hm.at (.tail _ (.tail _ (.head _))))).loadM1 (by decide) (Mem.refl w) (by simp) Bf3 hc (v:=.int .u64 (f:Int)) (by simp [hf]))) ?_;refine zw 7 ?_;refine zv 8 rfl (AI7 (b:=e) rfl rfl (by show e≤64;omega) (u64_in (n:=2 ^ e) (by omega))) ?_;refine zt ?_;refine zo 9 rfl (Val.and (a:=f) (b:=2 ^ e) rfl rfl (by show _ < 18446744073709551616;omega) (by show _ < 18446744073709551616;omega) (u64_in (by omega))) ?_;refine zo 10 rfl (Ab4 rfl rfl AF1 (by omega) (by omega)) ?_;refine zB 11 ?_;refine Ac0 rfl (Sto.store (cs:=(setsV fs).flatten++b20.2.2) (cs':=(setsV (setC fs c e)).flatten++b20.2.2) rfl rfl (.there (.there .here)) Bf3 rfl (by rw [← hset,Nat.zero_add,Int.toNat_natCast,Nat.mul_one];exact AF3 hc)) rfl rfl (Ab9 ?_)
  refine zd ?_;refine st ?_;refine Ag3 (zF rfl By8) rfl rfl rfl (fun w hm=>As6 b23 w) (fun b36=>?_)
  refine AB3 (Ac5 rfl rfl Bi7) rfl rfl rfl (fun _=>(.there (.there (.there .here)))) (fun w hm=>AM5 fs.length 0 m nE qe ce (setC fs c e) (some ⟨b20.1,0,none⟩) b20.1 b20.2.1 (by rw [AU6];omega) 0 (by decide) [] AV2 b23 b21 b36.1 b36.2 w ⟨(by rw [AU6];exact hm.at (.tail _ (.tail _ (.head _)))),Cf0 (hm.at (.tail _ (.tail _ (.tail _ (.tail _ (.head _)))))),(by rw [AU6];exact hH.len),(by rw [AU6];exact hl8),hne,CQ8 hc hH.lt⟩ (hm.at (.tail _ (.tail _ (.tail _ (.head _))))) (hm.at (.tail _ (.head _))) (hm.at (.head _))) (fun x37 hx37=>?_)
  refine su ?_;exact Aa4 (.r1 rfl (.tmp rfl)) (by first | rfl | simp)
end Go.Proofs.YtnmkdiagbkkmaabGreatDoor
namespace Go.Proofs.YtnmkdiagbkkmaabGreatDoor
open Go Go.Eng
theorem AR8:Enters Tryz.prog 43:=Aa1 Tryz.func43 (by kernel_rfl) rfl
end Go.Proofs.YtnmkdiagbkkmaabGreatDoor
namespace Go.Hp
open Go Go.Eng Go.Pw1
theorem AF6 (m:MxA):(fsX m.pl).length=m.cards.length:=by simp [fsX,MxA.pl]
theorem ne_eq (m:MxA):neX m.pl=(esX m).length:=rfl
theorem Cn3 (m:MxA):∀ f∈fsX m.pl,f < 2 ^ (esX m).length:=fun f hf=>by
  obtain ⟨t,_,rfl⟩:=List.mem_map.1 hf
  have:=BQ0 t (entriesX m.pl.boxes) 0
  rw [Nat.zero_add] at this;exact this
abbrev hpV (m:MxA) (bh bm:Nat) (x y:Eng.Own):Obj:=.cells [.slice m.q m.bxs.length m.cap,.slice m.q2 m.cards.length m.cap2,.slice (ownQ x) (esX m).length (ownC x),.slice (ownQ y) (fsX m.pl).length (ownC y),.map (some bm)].toArray 121 (0,0)
theorem CQ5 {l:List Nat} {y:Eng.Own} {w:World} {k:Nat} (hy:OwnOk 1 y k (setsV l).flatten) (hm:∀ b o,(b,o)∈ownB 116 y (setsV l).flatten→w.heap[b]? = some o):Sl w (ownQ y) (ownK y) 0 1 (setsV l) :=
  Ar5 (f:=fun (x:Nat)=>[Value.int .u64 (x:Int)]) (fun _=>rfl) (by decide) hy hm
theorem Cm9 {m:MxA} {bh bm:Nat} {x y:Eng.Own} {w:World} (hX:mixedX m.pl=true) (hv:w.heap[bh]? = some (hpV m bh bm x y)) (hy:OwnOk 1 y (fsX m.pl).length (setsV (fsX m.pl)).flatten) (hm:∀ b o,(b,o)∈ownB 116 y (setsV (fsX m.pl)).flatten→w.heap[b]? = some o) :
    HpAt w bh bm m (esX m).length (ownQ x) (ownC x) (fsX m.pl) (ownQ y) (ownK y) (ownC y):=by
  obtain ⟨h1,h2,h3⟩:=Ar1 hX;exact ⟨hv,CQ5 hy hm,AF6 m,by rw [AF6];exact h2,h3,Cn3 m⟩
abbrev HW (m:MxA):={ z:Hz×List ((Nat×Nat)×Value) // OwnOk 3 z.1.x (esX m).length ((esX m).map En.cells).flatten∧OwnOk 1 z.1.y (fsX m.pl).length (setsV (fsX m.pl)).flatten∧GoodM (esX m).length (fsX m.pl) z.2 }
theorem Ct5 (m:MxA) (hX:mixedX m.pl=true):cntX m.pl≤429981696:=by
  obtain ⟨h1,h2,h3⟩:=Ar1 hX;exact Ct6 (by rw [ne_eq];exact h3) (by rw [AF6];exact h2) 0
end Go.Hp
namespace Go.Proofs.YtnmkdiagbkkmaabGreatDoor
open Go Go.Eng Go.Hp Go.Pw1

theorem Bz7 (m:MxA) (hsm:MSm m) (W:World) (hM:MOk W m):Calls Tryz.prog 16 #[m.v] W (Pure (.tuple #[.int .i64 (CountX m.pl).1,.int .i64 (CountX m.pl).2]) W):=by
  cases hX:mixedX m.pl with
  | false =>
    have e:CountX m.pl=(0,1):=by unfold CountX;rw [hX];rfl
    rw [e];refine Aa0 Tryz.func16 rfl rfl ?_;refine st ?_;refine zn (New.box rfl) (fun b1=>?_)
    refine zc (zF rfl AR8) (fun w hm=>AY2 m hsm w (hM.mono0 hm) hX) ?_;refine RunC.cond rfl ?_ (fun h=>absurd h (by simp))
    intro c0;clear c0;refine su ?_;exact Aa4 (.r2 rfl (.tmp rfl) (.tmp rfl)) (by first | rfl | simp)
  | true =>
    have e:CountX m.pl=((cntX m.pl:Int),0):=by unfold CountX;rw [hX];rfl
    rw [e];refine Aa0 Tryz.func16 rfl rfl ?_;refine st ?_;refine zn (New.box rfl) (fun b1=>?_)
    refine Ah9 (zF rfl AR8) rfl rfl rfl (fun w hm=>Aw7 m hsm w (hM.mono0 hm) hX) (fun z8=>?_)
    obtain ⟨⟨bh8,bm8,x8,y8⟩,hx8,hy8⟩:=z8;dsimp only;refine st ?_;refine RunC.cond rfl (fun h=>absurd h (by simp)) ?_;intro c0;clear c0;refine st ?_;refine Ag3 (zF rfl By8) rfl rfl rfl (fun w hm=>As6 bh8 w) (fun b15=>?_)
    refine AB3 (Ac5 rfl rfl Bi7) rfl rfl rfl (fun _=>(.there (.there (.there (.there .here))))) (fun w hm=>AM5 (fsX m.pl).length 0 m (esX m).length _ _ (fsX m.pl) _ _ _ (by omega) 0 (by decide) [] AV2 bh8 bm8 b15.1 b15.2 w (Cm9 hX (hm.at (.tail _ (.tail _ (.tail _ (.head _))))) hy8 (fun b o h=>hm.at (.tail _ (.tail _ (.tail _ (.tail _ (.tail _ ((by first | exact List.mem_append_left _ h | exact List.mem_append_right _ (List.mem_append_left _ h)))))))))) (hm.at (.tail _ (.tail _ (.tail _ (.tail _ (.head _)))))) (hm.at (.tail _ (.head _))) (hm.at (.head _))) (fun x16 hx16=>?_)
    refine su ?_;exact Aa4 (.r2 rfl (.tmp rfl) (.tmp rfl)) (by first | rfl | simp)
theorem Cy7 (m:MxA) (hsm:MSm m) (W:World) (hM:MOk W m) (hw:waysE m.pl ≠ 0):Calls Tryz.prog 37 #[m.v] W (Pure (.tuple #[.pointer none,.int .i64 (waysE m.pl)]) W):=by
  cases hX:mixedX m.pl with
  | false =>
    have e1:waysE m.pl=1:=by unfold waysE;rw [hX];rfl
    rw [e1];refine Aa0 Tryz.func37 rfl rfl ?_;refine st ?_;refine zn (New.box rfl) (fun b1=>?_)
    refine zc (zF rfl AR8) (fun w hm=>AY2 m hsm w (hM.mono0 hm) hX) ?_;refine RunC.cond rfl ?_ (fun h=>absurd h (by simp))
    intro c0;clear c0;refine su ?_;exact Aa4 (.r2 rfl (.tmp rfl) (.tmp rfl)) (by first | rfl | simp)
  | true =>
    have e0:cntX m.pl=0:=by
      unfold waysE at hw;rw [if_pos hX] at hw
      by_cases h:cntX m.pl=0
      · exact h
      · exact absurd (if_neg h) hw
    have e1:waysE m.pl=4:=by unfold waysE;rw [if_pos hX,if_pos e0]
    have e2:cntL (esX m).length (List.drop 0 (fsX m.pl)) 0=0:=e0;rw [e1];refine Aa0 Tryz.func37 rfl rfl ?_;refine st ?_;refine zn (New.box rfl) (fun b1=>?_)
    refine Ah9 (zF rfl AR8) rfl rfl rfl (fun w hm=>Aw7 m hsm w (hM.mono0 hm) hX) (fun z8=>?_)
    obtain ⟨⟨bh8,bm8,x8,y8⟩,hx8,hy8⟩:=z8;dsimp only;refine st ?_;refine RunC.cond rfl (fun h=>absurd h (by simp)) ?_;intro c0;clear c0;refine st ?_;refine Ag3 (zF rfl By8) rfl rfl rfl (fun w hm=>As6 bh8 w) (fun b17=>?_)
    refine AB3 (Ac5 rfl rfl Bi7) rfl rfl rfl (fun _=>(.there (.there (.there (.there .here))))) (fun w hm=>AM5 (fsX m.pl).length 0 m (esX m).length _ _ (fsX m.pl) _ _ _ (by omega) 0 (by decide) [] AV2 bh8 bm8 b17.1 b17.2 w (Cm9 hX (hm.at (.tail _ (.tail _ (.tail _ (.head _))))) hy8 (fun b o h=>hm.at (.tail _ (.tail _ (.tail _ (.tail _ (.tail _ ((by first | exact List.mem_append_left _ h | exact List.mem_append_right _ (List.mem_append_left _ h)))))))))) (hm.at (.tail _ (.tail _ (.tail _ (.tail _ (.head _)))))) (hm.at (.tail _ (.head _))) (hm.at (.head _))) (fun x18 hx18=>?_)
    refine st ?_;refine RunC.cond rfl ?_ (fun h=>absurd h (by rw [e2];simp))
    intro c1;clear c1;refine su ?_;exact Aa4 (.r2 rfl (.tmp rfl) (.tmp rfl)) (by first | rfl | simp)
theorem BS8 (m:MxA) (hsm:MSm m) (W:World) (hM:MOk W m) (hw:waysE m.pl=0):Calls Tryz.prog 37 #[m.v] W
    (News (fun z:HW m=>.tuple #[.pointer (some ⟨z.1.1.bh,0,none⟩),.int .i64 0]) (fun z=>[(z.1.1.bh,hpV m z.1.1.bh z.1.1.bm z.1.1.x z.1.1.y),(z.1.1.bm,mapG z.1.2)] ++
      (ownB 116 z.1.1.y (setsV (fsX m.pl)).flatten++(ownB 165 z.1.1.x ((esX m).map En.cells).flatten++[]))) W):=by
  have hX:mixedX m.pl=true:=by
    cases h:mixedX m.pl with
    | true=>rfl
    | false=>unfold waysE at hw;rw [h] at hw;cases hw
  have e0:cntX m.pl ≠ 0:=fun h=>by
    unfold waysE at hw;rw [if_pos hX,if_pos h] at hw
    cases hw
  have e2:cntL (esX m).length (List.drop 0 (fsX m.pl)) 0 ≠ 0:=e0;refine Aa0 Tryz.func37 rfl rfl ?_;refine st ?_;refine zn (New.box rfl) (fun b1=>?_)
  refine Ah9 (zF rfl AR8) rfl rfl rfl (fun w hm=>Aw7 m hsm w (hM.mono0 hm) hX) (fun z8=>?_)
  obtain ⟨⟨bh8,bm8,x8,y8⟩,hx8,hy8⟩:=z8;dsimp only;refine st ?_;refine RunC.cond rfl (fun h=>absurd h (by simp)) ?_;intro c0;clear c0;refine st ?_;refine Ag3 (zF rfl By8) rfl rfl rfl (fun w hm=>As6 bh8 w) (fun b17=>?_)
  refine AB3 (Ac5 rfl rfl Bi7) rfl rfl rfl (fun _=>(.there (.there (.there (.there .here))))) (fun w hm=>AM5 (fsX m.pl).length 0 m (esX m).length _ _ (fsX m.pl) _ _ _ (by omega) 0 (by decide) [] AV2 bh8 bm8 b17.1 b17.2 w (Cm9 hX (hm.at (.tail _ (.tail _ (.tail _ (.head _))))) hy8 (fun b o h=>hm.at (.tail _ (.tail _ (.tail _ (.tail _ (.tail _ ((by first | exact List.mem_append_left _ h | exact List.mem_append_right _ (List.mem_append_left _ h)))))))))) (hm.at (.tail _ (.tail _ (.tail _ (.tail _ (.head _)))))) (hm.at (.tail _ (.head _))) (hm.at (.head _))) (fun x18 hx18=>?_)
  refine st ?_;refine RunC.cond rfl (fun h=>absurd h (by simpa using e2)) ?_;intro c1;clear c1;refine su ?_;exact RunE.ret (chg:=[]) (.r2 rfl (.tmp rfl) (.tmp rfl)) (fun _ hm=>⟨⟨(⟨bh8,bm8,x8,y8⟩,x18),hx8,hy8,hx18.1⟩,rfl,hm.pick (.cons (.there (.there (.there .here))) rfl (.cons (.there (.there (.there .here))) rfl (Pick.skip (Pick.skip (Pick.skip (Pick.refl _))))))⟩)
end Go.Proofs.YtnmkdiagbkkmaabGreatDoor
namespace Go.Hp
open Go Go.Eng Go.Pw1
theorem Cc0 {m:Mx} (hw:waysE m=0):mixedX m=true∧cntX m ≠ 0:=by
  have hX:mixedX m=true:=by
    cases h:mixedX m with
    | true=>rfl
    | false=>unfold waysE at hw;rw [h] at hw;cases hw
  exact ⟨hX,fun h=>by
    unfold waysE at hw;rw [if_pos hX,if_pos h] at hw
    cases hw⟩
end Go.Hp
namespace Go.Proofs.YtnmkdiagbkkmaabGreatDoor
open Go Go.Eng Go.Hp Go.Pw1

end Go.Proofs.YtnmkdiagbkkmaabGreatDoor
namespace Go.Proofs.YtnmkdiagbkkmaabGreatDoor
open Go Go.Eng
theorem CN1:Enters Tryz.prog 37:=Aa1 Tryz.func37 (by kernel_rfl) rfl
theorem Di8:Enters Tryz.prog 39:=Aa1 Tryz.func39 (by kernel_rfl) rfl
theorem Di7:Enters Tryz.prog 40:=Aa1 Tryz.func40 (by kernel_rfl) rfl
theorem AL2:zeroB Tryz.prog 110=some [.pointer none]:=by kernel_rfl
end Go.Proofs.YtnmkdiagbkkmaabGreatDoor
namespace Go.Hp
open Go Go.Eng Go.Pw1
def intsW (l:List Int):List (List Value):=l.map fun x=>[.int .i64 x]
theorem AZ6 (l:List Int) (a:Int):(intsW (l++[a])).flatten=(intsW l).flatten++[.int .i64 a]:=by simp [intsW]
theorem Ci3 {l:List Int} {a v:Int} {t:List Value}:paste ((intsW (l++[a])).flatten++t) l.length [.int .i64 v]=some ((intsW (l++[v])).flatten++t):=by
  have:=AL9 (f:=fun (x:Int)=>[Value.int .i64 x]) (sz:=1) (fun _=>rfl) (a':=v) (j:=0) (vs:=[.int .i64 v]) (t:=t) (l:=l++[a]) (i:=l.length) (by simp) rfl
  simpa [intsW] using this
theorem BF1 {sz n:Nat} {x:Eng.Own} {xs ys:List Value} (h:OwnOk sz x n xs) (hl:ys.length=xs.length):OwnOk sz x n ys :=
  ⟨by rw [hl];exact h.len,h.nil,fun b c r e=>by
    have:=h.cap b c r e
    rw [List.length_append] at this ⊢;rw [hl];exact this⟩
abbrev IO (l:List Int):={ x:Eng.Own // OwnOk 1 x l.length (intsW l).flatten }
end Go.Hp
namespace Go.Proofs.YtnmkdiagbkkmaabGreatDoor
open Go Go.Eng Go.Hp Go.Pw1

theorem Ci9 (m:MxA) (nE:Nat) (qe:Option Addr) (ce:Nat) (fs:List Nat) (qf:Option Addr) (bf cf:Nat) (c e a:Nat) (hc:c < fs.length) (he:e < nE) (bh bk b4 b6 b5:Nat) (W:World) (hH:HpAt W bh bk m nE qe ce fs qf bf cf)
    (h4:W.heap[b4]? = some (.cells [.pointer (some ⟨bh,0,none⟩)].toArray 110 (0,0))) (h6:W.heap[b6]? = some (.cells [.int .i64 (c:Int)].toArray 3 (0,0))) (h5:W.heap[b5]? = some (.cells [.int .i64 (a:Int)].toArray 3 (0,0))) :
    Calls Tryz.prog 39 #[.int .i64 (e:Int),.pointer (some ⟨b4,0,none⟩),.pointer (some ⟨b6,0,none⟩),.pointer (some ⟨b5,0,none⟩)] W (Pure (.bool (decide (((shareL nE fs c e:Nat):Int)=(a:Int)))) W):=by
  have hv:=hH.v;refine Aa0 Tryz.func39 rfl rfl ?_;refine st ?_;refine Ac4 5 Aj3 .nil ?_;refine va 0 rfl (Aa2 rfl h4 (by simp) Aw3 rfl) rfl rfl rfl .nil rfl ?_;refine va 1 rfl (Aa2 rfl h6 (by simp) Ag4 rfl) rfl rfl rfl .nil rfl ?_;refine va 2 rfl (Aa3 rfl) rfl rfl rfl .nil rfl ?_;refine va 4 rfl (Aa2 rfl h5 (by simp) Ag4 rfl) rfl rfl rfl .nil rfl ?_;refine zA 3 ?_;refine Ab5 rfl (zF rfl Di7) rfl rfl rfl (fun w hm=>BE3 m nE qe ce fs qf bf cf c e hc he bh bk w ⟨hm.old_at hv (by simp),hH.sl.mono (by decide) hm (by simp),hH.len,hH.le,hH.ne,hH.lt⟩) (Aa7 .nil .nil rfl ?_)
  refine zt ?_;refine zp 5 ?_;refine zp 6 ?_;refine zd ?_;refine su ?_;exact Aa4 (.r1 rfl (.tmp rfl)) (by first | rfl | simp)
theorem CA4 (m:MxA) (hsm:MSm m) (W:World) (hM:MOk W m) (hw:waysE m.pl ≠ 0):Calls Tryz.prog 13 #[m.v] W (Pure (.tuple #[.slice none 0 0,.int .i64 (waysE m.pl)]) W):=by
  refine Aa0 Tryz.func13 rfl rfl ?_;refine st ?_;refine zn (New.box rfl) (fun b1=>?_)
  refine zc (zF rfl CN1) (fun w hm=>Cy7 m hsm w (hM.mono0 hm) hw) ?_;refine zn (New.alloc AL2) (fun b4=>?_)
  refine Aa9 (Sto.store rfl rfl .here Aw3 rfl rfl) rfl rfl ?_;refine st ?_;refine RunC.cond rfl ?_ (fun h=>absurd h (by simpa using hw))
  intro c0;clear c0;refine su ?_;exact Aa4 (.r2 rfl (.tmp rfl) (.tmp rfl)) (by first | rfl | simp)
theorem BT9 (m:MxA) (hsm:MSm m) (W:World) (hM:MOk W m) (hw:waysE m.pl=0):Calls Tryz.prog 13 #[m.v] W
    (News (fun z:IO (SureX m.pl).1=>.tuple #[ownV z.1 (SureX m.pl).1.length,.int .i64 0]) (fun z=>ownB 3 z.1 (intsW (SureX m.pl).1).flatten++[]) W):=by
  obtain ⟨hX,h0⟩:=Cc0 hw;obtain ⟨h4,h8,h12⟩:=Ar1 hX;have hfl:=AF6 m;have e:(SureX m.pl).1=(List.range m.cards.length).map (sureC m.pl):=by unfold SureX;rw [if_pos hw];rfl
  have AT4:cntL (esX m).length (fsX m.pl) 0=cntX m.pl:=rfl;rw [e];refine Aa0 Tryz.func13 rfl rfl ?_;refine st ?_;refine zn (New.box rfl) (fun b1=>?_)
  refine Ah9 (zF rfl CN1) rfl rfl rfl (fun w hm=>BS8 m hsm w (hM.mono0 hm) hw) (fun z11=>?_)
  obtain ⟨⟨⟨bh11,bm11,x11,y11⟩,l11⟩,hx11,hy11,hg11⟩:=z11;dsimp only;refine st ?_;refine zn (New.alloc AL2) (fun b4=>?_)
  refine Aa9 (Sto.store rfl rfl .here Aw3 rfl rfl) rfl rfl ?_;refine st ?_;refine RunC.cond rfl (fun h=>absurd h (by simp)) ?_;intro c0;clear c0;refine su ?_;refine Ag3 (zF rfl By8) rfl rfl rfl (fun w hm=>As6 bh11 w) (fun b18=>?_)
  refine AB3 (Ac5 rfl rfl Bi7) rfl rfl rfl (fun _=>(.there (.there (.there (.there (.there .here)))))) (fun w hm=>AM5 (fsX m.pl).length 0 m (esX m).length _ _ (fsX m.pl) _ _ _ (by omega) 0 (by decide) l11 hg11 bh11 bm11 b18.1 b18.2 w (Cm9 hX (hm.at (.tail _ (.tail _ (.tail _ (.tail _ (.head _)))))) hy11 (fun b o h=>hm.at (.tail _ (.tail _ (.tail _ (.tail _ (.tail _ (.tail _ ((by first | exact List.mem_append_left _ h | exact List.mem_append_right _ (List.mem_append_left _ h))))))))))) (hm.at (.tail _ (.tail _ (.tail _ (.tail _ (.tail _ (.head _))))))) (hm.at (.tail _ (.head _))) (hm.at (.head _))) (fun x19 hx19=>?_)
  refine zn (New.alloc Ax7) (fun b5=>?_)
  refine Aa9 (Sto.store rfl rfl .here Ag4 rfl rfl) rfl rfl ?_;refine su ?_;refine Ah4 (X:=Eng.Own) (n0:=[(b4,_),(b5,_),(bh11,_),(bm11,_)]) (m.cards.length) (fun k x q=>(26,.int .i64 (k:Int))::(2,ownV x k)::q) (fun _ _=>_) (fun k x=>[]) (fun k x=>ownB 3 x (intsW ((List.range k).map (sureC m.pl))).flatten++(ownB 116 y11 (setsV (fsX m.pl)).flatten++(ownB 165 x11 ((esX m).map En.cells).flatten++[]))) (fun k x=>OwnOk 1 x k (intsW ((List.range k).map (sureC m.pl))).flatten) none OwnOk.start rfl (zE 26 rfl rfl (zE 2 rfl rfl (zS 4 rfl (zS 5 rfl (zS 25 rfl (Sub.nil _)))))) (.cons (.there (.there (.there .here))) rfl (.cons .here rfl (.cons (.there (.there (.there .here))) rfl (.cons (.there (.there (.there .here))) rfl (Pick.skip (Pick.skip (Pick.skip (Pick.same rfl)))))))) ?_;intro k x kN kI;have hx1:=kI;refine st ?_;refine cn rfl ?_ ?_
  ·intro c1'
   have hk:k < m.cards.length:=by omega
   refine st ?_;refine zn (New.alloc Ax7) (fun b6=>?_)
   refine Aa9 (Sto.store rfl rfl .here Ag4 rfl rfl) rfl rfl ?_;refine st ?_;refine zn (New.buildSlice (parts:=[(0,.const (.int .i64 (-1)))]) rfl Ah5 Ax7 rfl rfl rfl rfl) (fun b31=>?_)
   refine RunL.append (A:=[(b31,_),(b6,_),(b4,_),(b5,_),(bh11,_),(bm11,_)]) (B:=_) (x:=x) (ys:=[.int .i64 (-1)]) CK1 rfl rfl rfl hx1 rfl (fun h=>by cases h) (fun w hm=>An1 (hm.at (.head _))) (Ar6 rfl) (by simp only [maxLen];omega) (by omega) rfl (fun z32 hz32=>?_)
   refine su ?_;refine Ah4 (X:=Eng.Own) (n0:=[(b4,_),(b5,_),(b6,_),(bh11,_),(bm11,_)]) ((esX m).length) (fun j y q=>(38,.int .i64 (j:Int))::(2,ownV y (k + 1))::q) (fun _ _=>_) (fun j y=>[]) (fun j y=>ownB 3 y (intsW ((List.range k).map (sureC m.pl)++[lastP (sureP m.pl k) j])).flatten++(ownB 116 y11 (setsV (fsX m.pl)).flatten++(ownB 165 x11 ((esX m).map En.cells).flatten++[]))) (fun j y=>OwnOk 1 y (k + 1) (intsW ((List.range k).map (sureC m.pl)++[lastP (sureP m.pl k) j])).flatten) z32 (by rw [AZ6];exact hz32) rfl (zE 38 rfl rfl (zE 2 rfl rfl (zS 4 rfl (zS 5 rfl (zS 25 rfl (zS 26 rfl (zS 6 rfl (zS 7 rfl (zS 37 rfl (Sub.nil _)))))))))) (.cons (.there (.there .here)) rfl (.cons (.there (.there .here)) rfl (.cons (.there .here) rfl (.cons (.there .here) rfl (.cons (.there .here) rfl (Pick.skip (Pick.same (by rw [AZ6];rfl)))))))) ?_;intro j y jN jI;have hx1:=jI;refine st ?_;refine cn rfl ?_ ?_
   ·intro c2'
    have hj:j < (esX m).length:=by omega
    refine st ?_;refine Ab7 (Ac5 rfl rfl Di8) rfl rfl rfl (fun w hm=>Ci9 m (esX m).length _ _ (fsX m.pl) _ _ _ k j (cntX m.pl) (by omega) hj bh11 bm11 b4 b6 b5 w (Cm9 hX (hm.at (.tail _ (.tail _ (.tail _ (.head _))))) hy11 (fun b o h=>hm.at (.tail _ (.tail _ (.tail _ (.tail _ (.tail _ ((by first | exact List.mem_append_right _ (List.mem_append_left _ h) | exact List.mem_append_right _ (List.mem_append_right _ (List.mem_append_left _ h))))))))))) (hm.at (.head _)) (hm.at (.tail _ (.tail _ (.head _)))) (hm.at (.tail _ (.head _)))) ?_;refine st ?_;refine cn rfl ?_ ?_
    ·intro c3'
     have q3:lastP (sureP m.pl k) (j + 1)=(j:Int):=if_pos (decide_eq_true (Int.ofNat_inj.1 (by (show ((shareL (esX m).length (fsX m.pl) k j:Nat):Int)=((cntX m.pl:Nat):Int);simpa using c3'))));have hv2:=hx1;refine st ?_;refine Ac7 (Ab6 rfl (.tail _ (.tail _ (.head _))) Ag4 rfl) rfl rfl rfl ?_;refine vp rfl rfl rfl rfl ?_;obtain ⟨bx1,cx1,rx1,rfl,lx11,lx12,lx13⟩:=hx1.has (by omega);refine lv (Ab4 rfl rfl Ah5 (by omega) (by omega)) ?_;refine Aa9 (Sto.store (cs:=(intsW ((List.range k).map (sureC m.pl)++[lastP (sureP m.pl k) j])).flatten++rx1) (cs':=(intsW ((List.range k).map (sureC m.pl)++[(j:Int)])).flatten++rx1) rfl rfl (.there (.there (.there (.there (.there .here))))) Ag4 rfl (by have h9:=Ci3 (l:=(List.range k).map (sureC m.pl)) (a:=lastP (sureP m.pl k) j) (v:=(j:Int)) (t:=rx1);rw [List.length_map,List.length_range] at h9;rw [Nat.zero_add,Int.toNat_natCast,Nat.mul_one];exact h9)) rfl rfl ?_;refine st ?_;refine lv (Val.add rfl rfl (IntWalk.i64_in _ ⟨by omega,by omega⟩)) ?_;exact Ad5 (some (bx1,cx1,rx1)) (by omega) (by rw [q3];exact BF1 hv2 (by simp [intsW])) rfl (zE 38 rfl rfl (zE 2 rfl rfl (zS 4 rfl (zS 5 rfl (zS 25 rfl (zS 26 rfl (zS 6 rfl (zS 7 rfl (zS 37 rfl (Sub.nil _)))))))))) (.cons .here rfl (.cons .here rfl (.cons .here rfl (.cons .here rfl (.cons .here rfl (.cons .here (by rw [q3]) (Pick.refl _)))))))
    intro c3';have q3:lastP (sureP m.pl k) (j + 1)=lastP (sureP m.pl k) j:=if_neg (fun h9=>absurd (congrArg (fun (n:Nat)=>(n:Int)) (of_decide_eq_true h9)) (by (show ¬ ((shareL (esX m).length (fsX m.pl) k j:Nat):Int)=((cntX m.pl:Nat):Int);simpa using c3')));have hv2:=hx1;refine st ?_;refine lv (Val.add rfl rfl (IntWalk.i64_in _ ⟨by omega,by omega⟩)) ?_;exact Ad5 y (by omega) (by rw [q3];exact hv2) rfl (zE 38 rfl rfl (zE 2 rfl rfl (zS 4 rfl (zS 5 rfl (zS 25 rfl (zS 26 rfl (zS 6 rfl (zS 7 rfl (zS 37 rfl (Sub.nil _)))))))))) (.cons .here rfl (.cons .here rfl (.cons .here rfl (.cons .here rfl (.cons .here rfl (Pick.same (by rw [q3])))))))
   intro c2';have hjn:j=(esX m).length:=by omega
   have hS2:(List.range (k + 1)).map (sureC m.pl)=(List.range k).map (sureC m.pl)++[lastP (sureP m.pl k) j]:=by (rw [List.range_succ,List.map_append,hjn];rfl)
   refine RunC.exit ?_;refine su ?_;refine Ab1 ?_;refine st ?_;refine lv (Val.add rfl rfl (IntWalk.i64_in _ ⟨by omega,by omega⟩)) ?_;exact Ad5 y (by omega) (by rw [hS2];exact hx1) rfl (zE 26 rfl rfl (zE 2 rfl rfl (zS 4 rfl (zS 5 rfl (zS 25 rfl (Sub.nil _)))))) (.cons .here rfl (.cons .here rfl (.cons (.there .here) rfl (.cons (.there .here) rfl (Pick.skip (Pick.same (by rw [hS2])))))))
  intro c1';have hkn:k=m.cards.length:=by omega
  subst hkn;refine RunC.exit ?_;refine su ?_;refine Ab1 ?_;refine su ?_;exact RunE.ret (chg:=[]) (.r2 rfl (.tmp rfl) (.tmp rfl)) (fun _ hm=>⟨⟨x,by simpa using hx1⟩,by simp,hm.pick (Pick.skip (Pick.skip (Pick.skip (Pick.skip (Pick.app .nil _)))))⟩)
end Go.Proofs.YtnmkdiagbkkmaabGreatDoor
namespace Go.Proofs.YtnmkdiagbkkmaabGreatDoor
open Go Go.Eng
theorem Ba6:Enters Tryz.prog 199:=Aa1 Tryz.func199 (by kernel_rfl) rfl
end Go.Proofs.YtnmkdiagbkkmaabGreatDoor
namespace Go.Hp
open Go Go.Eng Go.Pw1
def isK (k s:Nat):Bool:=decide (0 < s) && decide (pc s 12=k)
def setsP (n k:Nat):List Nat:=((List.range k).map (· + 1)).flatMap fun k=>(List.range (2 ^ n)).filter (isK k)
theorem Cg2 (n:Nat):setsL n=setsP n n:=rfl
theorem BE5 (n k:Nat):setsP n (k + 1)=setsP n k++(List.range (2 ^ n)).filter (isK (k + 1)):=by
  unfold setsP;rw [List.range_succ,List.map_append,List.flatMap_append];simp
theorem Cg1 (n k:Nat):(setsP n k).length≤k * 2 ^ n:=by
  induction k with
  | zero=>simp [setsP]
  | succ k ih =>
    rw [BE5,List.length_append,Nat.succ_mul]
    have:=List.length_filter_le (isK (k + 1)) (List.range (2 ^ n))
    rw [List.length_range] at this;omega
theorem CT1 (k j:Nat):((List.range j).filter (isK k)).length≤j:=by
  have:=List.length_filter_le (isK k) (List.range j)
  rwa [List.length_range] at this
theorem BH2 {k j:Nat} (h:pc (j + 1) 12=k):(List.range (j + 2)).filter (isK k)=(List.range (j + 1)).filter (isK k)++[j + 1]:=by
  rw [List.range_succ,List.filter_append]
  have:isK k (j + 1)=true:=by unfold isK;rw [h];simp
  simp [this]
theorem CM2 {k j:Nat} (h:¬ pc (j + 1) 12=k):(List.range (j + 2)).filter (isK k)=(List.range (j + 1)).filter (isK k):=by
  rw [List.range_succ,List.filter_append]
  have:isK k (j + 1)=false:=by unfold isK;rw [decide_eq_false h,Bool.and_false]
  simp [this]
theorem Dm5 (k:Nat):(List.range (0 + 1)).filter (isK k)=[]:=by simp [isK]
theorem Cg0 {n k:Nat} (hk:k < n):∃ r,setsL n=setsP n (k + 1)++r:=by
  refine ⟨((List.range (n - (k + 1))).map (fun i=>k + 1 + i + 1)).flatMap fun k=>(List.range (2 ^ n)).filter (isK k),?_⟩
  rw [Cg2];unfold setsP;rw [← List.flatMap_append]
  congr 1
  have:List.range n=List.range (k + 1)++(List.range (n - (k + 1))).map (k + 1 + ·):=by rw [← List.range_add,show k + 1 + (n - (k + 1))=n by omega]
  rw [this,List.map_append,List.map_map];rfl
theorem CB8 {n k j:Nat} (hk:k < n) (hj:j + 1 < 2 ^ n) (h:pc (j + 1) 12=k + 1):∃ r,setsP n k++(List.range (j + 1)).filter (isK (k + 1))++[j + 1]++r=setsL n:=by
  obtain ⟨r,hr⟩:=Cg0 hk
  have:List.range (2 ^ n)=List.range (j + 2)++(List.range (2 ^ n - (j + 2))).map (j + 2 + ·):=by rw [← List.range_add,show j + 2 + (2 ^ n - (j + 2))=2 ^ n by omega]
  rw [BE5,this,List.filter_append,BH2 h] at hr;exact ⟨_,by rw [hr];simp only [List.append_assoc];rfl⟩
end Go.Hp
namespace Go.Proofs.YtnmkdiagbkkmaabGreatDoor
open Go Go.Eng Go.Hp Go.Pw1

theorem Bn9 (s:Nat) (hs:s < 4096) (W:World):Calls Tryz.prog 239 #[.int .u64 (s:Int)] W (Pure (.int .i64 (oc s:Int)) W):=by
  have b1:=CM0 s;have b2':=Cj6 s;have b3:=Cj4 s;have b3':=Cj5 s;have b4:=Cj3 s;have b5:=Cj2 s;have b6:=CL9 s;have h1:=Nat.shiftRight_le s 1;have h2:=Nat.shiftRight_le (oc1 s) 2;refine Aa0 Tryz.func239 rfl rfl ?_;refine st ?_;refine lv (Ak2 (a:=s) (b:=1) rfl rfl (by decide)) ?_;refine lv (Val.and (a:=s >>> 1) (b:=6148914691236517205) rfl rfl (by show _ < 18446744073709551616;omega) (by decide) (u64_in (by have:=Nat.and_le_right (n:=s >>> 1) (m:=6148914691236517205);omega))) ?_;refine lv (Val.and (a:=s) (b:=6148914691236517205) rfl rfl (by show _ < 18446744073709551616;omega) (by decide) (u64_in (by have:=Nat.and_le_right (n:=s) (m:=6148914691236517205);omega))) ?_;refine lv (Ah1 (oc1 s) rfl rfl rfl (u64_in (by omega))) ?_;refine lv (Ak2 (a:=oc1 s) (b:=2) rfl rfl (by decide)) ?_;refine lv (Val.and (a:=oc1 s >>> 2) (b:=3689348814741910323) rfl rfl (by show _ < 18446744073709551616;omega) (by decide) (u64_in (by have:=Nat.and_le_right (n:=oc1 s >>> 2) (m:=3689348814741910323);omega))) ?_;refine lv (Val.and (a:=oc1 s) (b:=3689348814741910323) rfl rfl (by show _ < 18446744073709551616;omega) (by decide) (u64_in (by have:=Nat.and_le_right (n:=oc1 s) (m:=3689348814741910323);omega))) ?_;refine lv (Ah1 (oc2 s) rfl rfl rfl (u64_in (by omega))) ?_;refine lv (Ak2 (a:=oc2 s) (b:=4) rfl rfl (by decide)) ?_;refine lv (Ah1 (oc3a s) rfl rfl rfl (u64_in (by omega))) ?_;refine lv (Val.and (a:=oc3a s) (b:=1085102592571150095) rfl rfl (by show _ < 18446744073709551616;omega) (by decide) (u64_in (by have:=Nat.and_le_right (n:=oc3a s) (m:=1085102592571150095);omega))) ?_;refine lv (Ak2 (a:=oc3 s) (b:=8) rfl rfl (by decide)) ?_;refine lv (Ah1 (oc4 s) rfl rfl rfl (u64_in (by omega))) ?_;refine lv (Ak2 (a:=oc4 s) (b:=16) rfl rfl (by decide)) ?_;refine lv (Ah1 (oc5 s) rfl rfl rfl (u64_in (by omega))) ?_;refine lv (Ak2 (a:=oc5 s) (b:=32) rfl rfl (by decide)) ?_;refine lv (Ah1 (oc6 s) rfl rfl rfl (u64_in (by omega))) ?_;refine lv (Ao1 rfl Cc8 BD2 (IntWalk.i64_in _ ⟨by omega,by omega⟩)) ?_;refine lu (Val.and (a:=oc6 s) (b:=127) rfl rfl (by show _ < 18446744073709551616;omega) (by decide) (Ap3 (by have:=Nat.and_le_right (n:=oc6 s) (m:=127);omega))) ?_;exact Aa4 (.r1 rfl (.tmp rfl)) (by first | rfl | simp)
theorem BG9 (s:Nat) (hs:s < 4096) (W:World):Calls Tryz.prog 221 #[.int .u64 (s:Int)] W (Pure (.int .i64 (pc s 12:Int)) W):=by
  rw [← De0 hs];refine Aa0 Tryz.func221 rfl rfl ?_;refine st ?_;refine Ax6 rfl ?_;refine st ?_;refine zc (zF rfl Cq1) (fun w hm=>Bn9 s hs w) ?_;exact Aa4 (.r1 rfl (.tmp rfl)) (by first | rfl | simp)
theorem AA4 (s:Nat) (hs:s < 4096) (W:World):Calls Tryz.prog 199 #[.int .u64 (s:Int)] W (Pure (.int .i64 (pc s 12:Int)) W):=by
  refine Aa0 Tryz.func199 rfl rfl ?_;refine st ?_;refine zc (zF rfl Cq4) (fun w hm=>BG9 s hs w) ?_;exact Aa4 (.r1 rfl (.tmp rfl)) (by first | rfl | simp)
abbrev nCell (n:Nat):Obj:=.cells [.int .i64 (n:Int)].toArray 3 (0,0)
set_option maxHeartbeats 2000000 in
theorem Bg0 (n:Nat) (hn:n≤8) (b1:Nat) (w0:World) (nm:List Nat) (h0:w0.heap[b1]? = some (nCell n)) (hs:b1 < w0.heap.size∧b1 ∉ nm) :
    SeqStopsK (Fr none) 8 Tryz.prog 229 #[.pointer (some ⟨b1,0,none⟩)] (fun x:Nat=>#[.int .u64 ((x % 4096:Nat):Int)]) (KpX w0.heap.size nm) (fun xs=>xs=setsL n) (fun pre=>∃ r,pre++r=setsL n) 5000 w0:=by
  unfold SeqStopsK;intro l J Jx W hW hJ hJx hY hJ0;have h2n:2 ^ n≤2 ^ 8:=Nat.pow_le_pow_right (by decide) hn;have h2p:0 < 2 ^ n:=Nat.two_pow_pos n;have hSn:W.heap[b1]? = some (nCell n):=(hW.block b1 hs.1).trans h0;have hJm:∀ {s:List Nat} {A C:World} {news:Blks},J s A→Mem A [] news C→J s C:=fun h hm=>hJ _ _ _ none h hm.grown (fun r e=>by cases e)
  have hJxm:∀ {s:List Nat} {A C:World} {news:Blks},Jx s A→Mem A [] news C→Jx s C:=fun h hm=>hJx _ _ _ none h hm.grown (fun r e=>by cases e)
  have hYY:∀ (pre:List Nat) (x:Nat) (A:World),J pre A→pre.length < 5000→A.heap[b1]? = some (nCell n)→YieldAt (Fr none) 8 Tryz.prog l #[.int .u64 ((x % 4096:Nat):Int)] A (fun e w'=>∃ y,e = .returned (.bool y)∧((y=true∧J (pre++[x]) w'∧w'.heap[b1]? = some (nCell n))∨(y=false∧Jx (pre++[x]) w'))):=fun pre x A h1 h2 h3 =>
    AJ9 (hY pre x A h1 h2) (fun e w' hh=>by
      rcases hh with ⟨rfl,hh,hk⟩ | ⟨rfl,hh⟩
      · exact ⟨true,rfl,.inl ⟨rfl,hh,(hk b1 hs.1 hs.2).trans h3⟩⟩
      · exact ⟨false,rfl,.inr ⟨rfl,hh⟩⟩)
  refine AD8 (vs:=[.func (.yield l) #[] #[],.pointer (some ⟨b1,0,none⟩)]) Tryz.func229 rfl rfl ?_ 8
  refine RunCR.seq ?_;refine RunCR.region ?_;refine Aa6 (Aa3 rfl) rfl rfl rfl ?_;refine RunLR.nil ?_;refine RunER.next ?_;refine RunCR.block ?_;refine Aq7 (n) (fun k q=>(3,.int .i64 ((k + 1:Nat):Int))::q) (fun k Wk=>J (setsP n k) Wk∧Wk.heap[b1]? = some (nCell n)) (fun w hm=>⟨hJm hJ0 hm,hm.old_at hSn (by simp)⟩) (zE 3 rfl rfl (zS 0 rfl (zS 1 rfl (Sub.nil _)))) ?_;intro k Wk kN kI;obtain ⟨hJk,hSk⟩:=kI;refine RunCR.seq ?_;refine RunCR.seq ?_;refine RunCR.region ?_;refine Aa6 (Aa3 rfl) rfl rfl rfl ?_;refine Aa6 (Aa2 rfl hSk (by simp) Ag4 rfl) rfl rfl rfl ?_;refine Aa6 (Aa3 rfl) rfl rfl rfl ?_;refine RunLR.nil ?_;refine RunER.next ?_;refine RunCR.cond rfl ?_ ?_
  ·intro c0
   have c0':=c0;clear c0;try simp only [nH] at c0'
   have hk:k < n:=by omega
   have hpl:=Cg1 n k;have hpl2:k * 2 ^ n≤8 * 2 ^ 8:=Nat.mul_le_mul (by omega) h2n;refine RunCR.skip ?_;refine RunER.next ?_;refine RunCR.seq ?_;refine RunCR.block ?_;refine RunCR.seq ?_;refine RunCR.region ?_;refine Aa6 (Aa3 rfl) rfl rfl rfl ?_;refine RunLR.nil ?_;refine RunER.next ?_;refine RunCR.block ?_;refine Aq7 (2 ^ n - 1) (fun j q=>(4,.int .u64 ((j + 1:Nat):Int))::q) (fun j Wj=>J (setsP n k++(List.range (j + 1)).filter (isK (k + 1))) Wj∧Wj.heap[b1]? = some (nCell n)) (fun w hm=>⟨by rw [Dm5,List.append_nil];exact hJm hJk hm,hm.old_at hSk (by simp)⟩) (zE 4 rfl rfl (zS 0 rfl (zS 1 rfl (zS 3 rfl (Sub.nil _))))) ?_;intro j Wj jN jI;obtain ⟨hJj,hSj⟩:=jI;refine RunCR.seq ?_;refine RunCR.seq ?_;refine RunCR.region ?_;refine Aa6 (Aa3 rfl) rfl rfl rfl ?_;refine Aa6 (Aa2 rfl hSj (by simp) Ag4 rfl) rfl rfl rfl ?_;refine Aa6 (AI7 (b:=n) rfl rfl (by show n≤64;omega) (u64_in (n:=2 ^ n) (by omega))) rfl rfl rfl ?_;refine Aa6 (Aa3 rfl) rfl rfl rfl ?_;refine RunLR.nil ?_;refine RunER.next ?_;refine RunCR.cond rfl ?_ ?_
   ·intro c1
    have c1':=c1;clear c1;try simp only [nH] at c1'
    have hj:j + 1 < 2 ^ n:=by omega
    have hfl:=CT1 (k + 1) (j + 1);refine RunCR.skip ?_;refine RunER.next ?_;refine RunCR.seq ?_;refine RunCR.block ?_;refine RunCR.seq ?_;refine RunCR.region ?_;refine Aa6 (Aa3 rfl) rfl rfl rfl ?_;refine Aq4 (zF rfl Ba6) rfl rfl rfl (fun w hm=>AA4 (j + 1) (by omega) w) ?_
    iterate 3 refine Aa6 (Aa3 rfl) rfl rfl rfl ?_
    refine Bk1 (dj:=20) rfl ?_ ?_
    ·intro g20
     have g20':=g20;clear g20;try simp only [nH] at g20'
     refine Aa6 (Aa3 rfl) rfl rfl rfl ?_;refine Aa6 (Aa3 rfl) rfl rfl rfl ?_;refine RunLR.yield (RY:=fun y w'=>(y=true∧J (setsP n k++(List.range (j + 1)).filter (isK (k + 1))++[j + 1]) w'∧w'.heap[b1]? = some (nCell n))∨(y=false∧Jx (setsP n k++(List.range (j + 1)).filter (isK (k + 1))++[j + 1]) w')) (Ak0 rfl rfl) rfl rfl rfl (fun w hm=>(by have h9:=hYY _ (j + 1) w (hJm hJj hm) (by rw [List.length_append];omega) (hm.old_at hSj (by simp));rw [Nat.mod_eq_of_lt (show j + 1 < 4096 by omega)] at h9;exact h9)) ?_;intro y23 W23 h23;refine Aa6 (Aa3 rfl) rfl rfl rfl ?_;refine Aa6 (Aa3 rfl) rfl rfl rfl ?_;refine RunLR.nil ?_;refine RunER.next ?_;refine RunCR.cond rfl ?_ ?_
     ·intro c2
      have c2':=c2;clear c2;try simp only [nH] at c2'
      refine RunCR.ret ?_;refine Ad3 ?_;refine Ad2 ?_;refine Ad2 ?_;refine Ad3 ?_;refine Ad3 ?_;refine Ad2 ?_;refine Ad2 ?_;refine Ad3 ?_;intro a w2 s
      rcases h23 with ⟨h,_⟩ | ⟨_,hX2⟩
      ·rw [h] at c2';cases c2'
      exact ⟨s.defers,_,results_none rfl _ _ _,⟨_,rfl⟩,.inr ⟨_,CB8 hk hj (by omega),hJxm hX2 s.mem⟩⟩
     intro c2;have c2':=c2;clear c2;try simp only [nH] at c2'
     refine RunCR.skip ?_;refine st ?_;refine RunER.next ?_;refine RunCR.region ?_;refine Aa6 (Aa3 rfl) rfl rfl rfl ?_;refine Aa6 (Ah1 (a:=j + 1) (b:=1) (j + 1 + 1) rfl rfl rfl (u64_in (by omega))) rfl rfl rfl ?_;refine Aa6 (Aa3 rfl) rfl rfl rfl ?_;refine RunLR.nil ?_;exact Am2 (by omega) (fun w hm=>(by first | exact ⟨by rw [CM2 (by omega)];exact hJm hJj hm,hm.old_at hSj (by simp)⟩ | (rcases h23 with ⟨_,hJ2,hS2⟩ | ⟨h,_⟩;exact ⟨by rw [BH2 (by omega),← List.append_assoc];exact hJm hJ2 hm,hm.old_at hS2 (by simp)⟩;rw [h] at c2';cases c2'))) (zE 4 rfl rfl (zS 0 rfl (zS 1 rfl (zS 3 rfl (Sub.nil _)))))
    intro g20;have g20':=g20;clear g20;try simp only [nH] at g20'
    iterate 4 refine AV8 rfl rfl rfl ?_
    refine Aa6 (Aa3 rfl) rfl rfl rfl ?_;refine RunLR.nil ?_;refine RunER.next ?_;refine AU2 rfl ?_;refine RunCR.skip ?_;refine st ?_;refine RunER.next ?_;refine RunCR.region ?_;refine Aa6 (Aa3 rfl) rfl rfl rfl ?_;refine Aa6 (Ah1 (a:=j + 1) (b:=1) (j + 1 + 1) rfl rfl rfl (u64_in (by omega))) rfl rfl rfl ?_;refine Aa6 (Aa3 rfl) rfl rfl rfl ?_;refine RunLR.nil ?_;exact Am2 (by omega) (fun w hm=>(by first | exact ⟨by rw [CM2 (by omega)];exact hJm hJj hm,hm.old_at hSj (by simp)⟩ | (rcases h23 with ⟨_,hJ2,hS2⟩ | ⟨h,_⟩;exact ⟨by rw [BH2 (by omega),← List.append_assoc];exact hJm hJ2 hm,hm.old_at hS2 (by simp)⟩;rw [h] at c2';cases c2'))) (zE 4 rfl rfl (zS 0 rfl (zS 1 rfl (zS 3 rfl (Sub.nil _)))))
   intro c1;have c1':=c1;clear c1;try simp only [nH] at c1'
   have hjn:j + 1=2 ^ n:=by omega
   have AT4:setsP n (k + 1)=setsP n k++(List.range (j + 1)).filter (isK (k + 1)):=by rw [BE5,hjn]
   refine RunCR.exit ?_;refine su ?_;refine Ab1 ?_;refine st ?_;refine RunER.next ?_;refine RunCR.region ?_;refine Aa6 (Aa3 rfl) rfl rfl rfl ?_;refine Aa6 (Ah1 (a:=k + 1) (b:=1) (k + 1 + 1) rfl rfl rfl (Ap3 (by omega))) rfl rfl rfl ?_;refine Aa6 (Aa3 rfl) rfl rfl rfl ?_;refine RunLR.nil ?_;exact Am2 (by omega) (fun w hm=>⟨by rw [AT4];exact hJm hJj hm,hm.old_at hSj (by simp)⟩) (zE 3 rfl rfl (zS 0 rfl (zS 1 rfl (Sub.nil _))))
  intro c0;have c0':=c0;clear c0;try simp only [nH] at c0'
  obtain rfl:k=n:=by omega
  refine RunCR.exit ?_;refine su ?_;refine Ab1 ?_;intro a w2 s;exact ⟨s.defers,_,results_none rfl _ _ _,⟨_,rfl⟩,.inl ⟨_,rfl,hJm hJk s.mem⟩⟩
theorem Bg1 (n:Nat) (W:World):Calls Tryz.prog 198 #[.int .i64 (n:Int)] W (News (fun b=>.func (.func 229) #[] #[.pointer (some ⟨b,0,none⟩)]) (fun b=>[(b,nCell n)]) W):=by
  refine Aa0 Tryz.func198 rfl rfl ?_;refine st ?_;refine zn (New.box rfl) (fun b1=>?_)
  exact RunE.ret (chg:=[]) (.r1 rfl (.tmp rfl)) (fun _ hm=>⟨b1,rfl,hm⟩)
end Go.Proofs.YtnmkdiagbkkmaabGreatDoor
namespace Go.Proofs.YtnmkdiagbkkmaabGreatDoor
open Go Go.Eng
theorem Cq7:Enters Tryz.prog 198:=Aa1 Tryz.func198 (by kernel_rfl) rfl
theorem Cq3:Enters Tryz.prog 229:=Aa1 Tryz.func229 (by kernel_rfl) rfl
theorem Cc9:Tryz.prog.underlying 116=some (.int .u64):=by kernel_rfl
end Go.Proofs.YtnmkdiagbkkmaabGreatDoor
