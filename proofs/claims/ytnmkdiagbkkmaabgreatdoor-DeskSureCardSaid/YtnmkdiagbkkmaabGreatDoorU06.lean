/- Walks of package desk: a script. Printed by mk_tc.py. -/
import Derived.Test.YtnmkdiagbkkmaabGreatDoorU05
import Derived.Test.YtnmkdiagbkkmaabGreatDoorProg
import Derived.Test.YtnmkdiagbkkmaabGreatDoorRows
import Derived.Lib.LaidTab
import Derived.Stop.LaidErr
import Derived.MakeChecks
import Derived.Shelf.Vars
import Derived.Handed
import Derived.HandedShaped
import Derived.Lay
set_option linter.unusedSimpArgs false
set_option linter.unusedVariables false
set_option linter.unusedSectionVars false
namespace Go.Dk
open Go Go.Eng Go.RowKit Go.Pw1 Go.Hp
section
variable {c:Cd} {s:Str}
theorem CI6 (h:131072 < s.length):runX c s=([],3):=by unfold runX;rw [if_pos h]
variable (hl:¬ 131072 < s.length)
include hl
theorem CI7 (h1:s ≠ []) (h:Lib.hasSuffix s [10]=false):runX c s=([],8):=by
  unfold runX;rw [if_neg hl,if_pos ⟨h1,fun h2=>by rw [(Ar1 s).2 h2] at h;cases h⟩]
theorem CY8 (h:s=[]∨s.getLast? = some 10) (hc:cardIs c=false):runX c s=([],1):=by
  unfold runX;rw [if_neg hl,if_neg (fun h2=>h.elim h2.1 h2.2),if_neg (by show ¬ cardIs c=true;rw [hc];decide)]
theorem Dl4 (h:s=[]∨s.getLast? = some 10) (hc:cardIs c=true):runX c s=((runL (bareC c) noBn ((linesL s).map trimL)).2,0):=by
  unfold runX;rw [if_neg hl,if_neg (fun h2=>h.elim h2.1 h2.2),if_pos (by exact hc),Cr0 h]
end
theorem Cy1 {s:Str} (h:¬ (s ≠ []∧Lib.hasSuffix s [10]=false)):s=[]∨s.getLast? = some 10:=by
  by_cases h0:s=[]
  · exact .inl h0
  · exact .inr ((Ar1 s).1 (by cases e:Lib.hasSuffix s [10] with
      | true=>rfl
      | false=>exact absurd ⟨h0,e⟩ h))
abbrev RuX:=DkX×Value×Eng.Own×Str
structure RuOk (c:Cd) (b7:Nat) (pre:List Str) (x:RuX):Prop where
  d:DkOk x.1
  p:BuP b7 x.2.1
  o:OwnOk 1 x.2.2.1 x.2.2.2.length (byc x.2.2.2)
  e:x.2.2.1=none∨x.2.2.2 ≠ []
  r:runL (bareC c) noBn (pre.map trimL)=(x.1.pl,x.2.2.2)
  n:x.2.2.2.length≤4001 * pre.length
theorem Dm0 {x:Eng.Own} {l:Str} {xs:List Value} (ho:OwnOk 1 x l.length xs) (h:x=none∨l ≠ []):ownQ x=none∨ownC x ≠ 0:=by
  match x,h,ho with
  | none,_,_=>exact .inl rfl
  | some (b,c,r),h,ho =>
    refine .inr ?_;have h1:=List.length_pos_iff.2 (h.resolve_left (by simp));have h2:=(ho.cap b c r rfl).1
    show c ≠ 0
    omega
theorem CY7 (c:Cd) {d d':DkX} {l:List Str} {v:Str} {t r:Str} {e:Int} (h:runL c noBn l=(d.pl,t)) (hz:(d'.pl,r,e)=stepX c d.pl v):runL c noBn (l++[v])=(d'.pl,t++(echoX r e++[10])):=by
  rw [Bv9,h];dsimp only;rw [← hz]
end Go.Dk
namespace Go.Proofs.YtnmkdiagbkkmaabGreatDoor
open Go Go.Eng Go.Dk Go.RowKit Go.Pw1 Go.Hp

theorem BO2 (s:Str) (W:World):Calls Tryz.prog 51 #[.string (bs s)] W (News (fun b:Nat=>.func (.func 102) #[] #[pV b]) (fun b=>[(b,strO s)]) W):=by
  refine Aa0 Tryz.func51 rfl rfl ?_;refine st ?_;refine zn (New.box rfl) (fun b1=>?_)
  exact RunE.ret (chg:=[]) (.r1 rfl (.tmp rfl)) (fun _ hm=>⟨b1,rfl,hm.pick (.cons .here rfl .nil)⟩)
theorem CR6 (c:Cd) (q:Option Addr) (b o cap:Nat) (s:Str) (W:World) (h:131072 < s.length):Calls Tryz.prog 23 #[c.v q cap,.string (bs s)] W (Pure (.tuple #[.string (bs (runX c s).1),.int .i64 (runX c s).2]) W):=by
  rw [CI6 h];refine Aa0 Tryz.func23 rfl rfl ?_;refine st ?_;refine zn (New.box rfl) (fun b2=>?_)
  refine lv (Ah1 rfl Ao6) ?_;refine RunC.cond rfl ?_ (fun h=>absurd h (by simp;omega))
  intro c0;clear c0;refine su ?_;exact Aa4 (.r2 rfl (.tmp rfl) (.tmp rfl)) (by first | rfl | simp)
theorem CR7 (c:Cd) (q:Option Addr) (b o cap:Nat) (s:Str) (W:World) (hl:¬ 131072 < s.length) (h1:s ≠ []) (hf:Lib.hasSuffix s [10]=false):Calls Tryz.prog 23 #[c.v q cap,.string (bs s)] W (Pure (.tuple #[.string (bs (runX c s).1),.int .i64 (runX c s).2]) W):=by
  rw [CI7 hl h1 hf];refine Aa0 Tryz.func23 rfl rfl ?_;refine st ?_;refine zn (New.box rfl) (fun b2=>?_)
  refine lv (Ah1 rfl Ao6) ?_;refine RunC.cond rfl (fun h=>absurd h (by simp;omega)) ?_;intro c0;clear c0;refine st ?_;refine lv (Al4 rfl rfl) ?_
  refine Ab3 (dj:=18) (dp:=22) 4 rfl (fun g18=>by
    have g18':=g18;try simp only [nH] at g18'
    refine st ?_;refine Ab8 (zF rfl Cv4) rfl rfl rfl (fun w hm=>(Ax7 s [10] (by omega) w)) ?_;refine sv ?_;exact zs g18
  ) (fun g18=>by
    have g18':=g18;try simp only [nH] at g18'
    iterate 3 refine Ab7 rfl rfl rfl ?_
    refine sv ?_;exact zs g18
  ) ?_
  refine st ?_;refine RunC.cond rfl ?_ (fun h=>absurd h (by simp [hf,h1]))
  intro c1;clear c1;refine su ?_;exact Aa4 (.r2 rfl (.tmp rfl) (.tmp rfl)) (by first | rfl | simp)
theorem Di7 (c:Cd) (q:Option Addr) (b o cap:Nat) (s:Str) (W:World) (hS:Sl W q b o 9 (c.p.things.map Th.cells)) (hq:q=none→cap=0) (hl:c.p.things.length≤1000) (hL:Lw Tryz.prog W) (hs0:¬ 131072 < s.length) (h:s=[]∨s.getLast? = some 10) (hc:cardIs c=false):Calls Tryz.prog 23 #[c.v q cap,.string (bs s)] W (Pure (.tuple #[.string (bs (runX c s).1),.int .i64 (runX c s).2]) W):=by
  rw [CY8 hs0 h hc];have hsx:s ≠ []→Lib.hasSuffix s [10]=true:=fun h1=>(Ar1 s).2 (h.resolve_left h1)
  refine Aa0 Tryz.func23 rfl rfl ?_;refine st ?_;refine zn (New.box rfl) (fun b2=>?_)
  refine lv (Ah1 rfl Ao6) ?_;refine RunC.cond rfl (fun h=>absurd h (by simp;omega)) ?_;intro c0;clear c0;refine st ?_;refine lv (Al4 rfl rfl) ?_
  refine Ab3 (dj:=18) (dp:=22) 4 rfl (fun g18=>by
    have g18':=g18;try simp only [nH] at g18'
    refine st ?_;refine Ab8 (zF rfl Cv4) rfl rfl rfl (fun w hm=>(Ax7 s [10] (by omega) w)) ?_;refine sv ?_;exact zs g18
  ) (fun g18=>by
    have g18':=g18;try simp only [nH] at g18'
    iterate 3 refine Ab7 rfl rfl rfl ?_
    refine sv ?_;exact zs g18
  ) ?_
  refine st ?_;refine RunC.cond rfl (fun h=>absurd h (by simp;exact hsx)) ?_;intro c1;clear c1;refine su ?_;refine zc (zF rfl BT4) (fun w hm=>(CV9 c q b o cap w (hS.mono (by decide) hm (by simp)) hq hl hc)) ?_;refine zn (New.alloc Cf7) (fun b6=>?_)
  refine Ab0 (Sto.store rfl rfl .here BW1 rfl rfl) rfl rfl ?_;refine st ?_;refine RunC.cond rfl ?_ (fun h=>absurd h (by simp))
  intro c2;clear c2;refine su ?_;exact Aa4 (.r2 rfl (.tmp rfl) (.tmp rfl)) (by first | rfl | simp)
set_option maxHeartbeats 2000000 in
theorem Dt2 (c:Cd) (q:Option Addr) (b o cap:Nat) (s:Str) (W:World) (hS:Sl W q b o 9 (c.p.things.map Th.cells)) (hq:q=none→cap=0) (hl:c.p.things.length≤1000) (hL:Lw Tryz.prog W) (hsl:s.length≤100000) (h:s=[]∨s.getLast? = some 10) (hc:cardIs c=true):Calls Tryz.prog 23 #[c.v q cap,.string (bs s)] W (Pure (.tuple #[.string (bs (runX c s).1),.int .i64 (runX c s).2]) W):=by
  rw [Dl4 (by omega) h hc];have hsx:s ≠ []→Lib.hasSuffix s [10]=true:=fun h1=>(Ar1 s).2 (h.resolve_left h1)
  have hll:=Bi9 s;refine AE4 (Mem.refl W) Tryz.func23 rfl rfl ?_;refine RunCF.seq ?_;refine Ak6 ?_;refine st ?_;refine zn (New.box rfl) (fun b2=>?_)
  refine RunEF.next ?_;refine RunCF.seq ?_;refine RunCF.block ?_;refine RunCF.seq ?_;refine Ak6 ?_;refine st ?_;refine lv (Ah1 rfl Ao6) ?_;refine RunEF.next ?_;refine Ak6 ?_;refine RunC.cond rfl (fun h=>absurd h (by simp;omega)) ?_;intro c0;clear c0;refine st ?_;refine lv (Al4 rfl rfl) ?_
  refine Ab3 (dj:=18) (dp:=22) 4 rfl (fun g18=>by
    have g18':=g18;try simp only [nH] at g18'
    refine st ?_;refine Ab8 (zF rfl Cv4) rfl rfl rfl (fun w hm=>(Ax7 s [10] (by omega) w)) ?_;refine sv ?_;exact zs g18
  ) (fun g18=>by
    have g18':=g18;try simp only [nH] at g18'
    iterate 3 refine Ab7 rfl rfl rfl ?_
    refine sv ?_;exact zs g18
  ) ?_
  refine st ?_;refine RunC.cond rfl (fun h=>absurd h (by simp;exact hsx)) ?_;intro c1;clear c1;refine st ?_;refine RunEF.next ?_;refine RunCF.seq ?_;refine Ak6 ?_;refine su ?_;refine Ag0 (zF rfl BT4) rfl rfl rfl (fun w hm=>(CV8 c q b o cap w (hS.mono (by decide) hm (by simp)) hq hl hc)) (fun b25=>?_)
  refine st ?_;refine zn (New.alloc Cf7) (fun b6=>?_)
  refine Ab0 (Sto.store rfl rfl .here BW1 rfl rfl) rfl rfl ?_;refine st ?_;refine RunEF.next ?_;refine RunCF.seq ?_;refine RunCF.seq ?_;refine Ak6 ?_;refine st ?_;refine RunEF.next ?_;refine Ak6 ?_;refine RunC.cond rfl (fun h=>absurd h (by simp)) ?_;intro c2;clear c2;refine st ?_;refine RunEF.next ?_;refine RunCF.seq ?_;refine Ak6 ?_;refine st ?_;refine zn (New.alloc CW2) (fun b7=>?_)
  refine RunEF.next ?_;refine RunCF.seq ?_;refine RunCF.seq ?_;refine Ak6 ?_;refine st ?_;refine Ag0 (zF rfl Dq1) rfl rfl rfl (fun w hm=>(BO2 s w)) (fun b32=>?_)
  refine st ?_;refine RunEF.next ?_;refine RunCF.block ?_;refine RunCF.range Tryz.func23 (α:=Str) (X:=RuX) (enc:=fun x=>.string (bs x)) (eb:=fun _=>[]) (itb:=[(b32,strO s)]) (mis:=dmis) (S:=fun xs=>xs=linesL s) (Sp:=fun xs=>xs <+: linesL s) (Sq:=fun _ _=>False) (N:=s.length + 1) (fun x=>(b6,.cells (cellsL (pV b25)).toArray 33 (0,0))::(b25,dkO x.1 c)::(b7,buO x.2.1 x.2.2.1 x.2.2.2.length)::(dkB x.1++ownB 5 x.2.2.1 (byc x.2.2.2))) (fun pre x=>RuOk c b7 pre x) (fun _ _=>False) (fun _ _=>False) (noDk,.pointer none,none,[]) ⟨Cp3,.inl rfl,OwnOk.start,.inl rfl,rfl,Nat.zero_le _⟩ ([]) (.cons (.there (.there .here)) rfl (.cons (.there (.there .here)) rfl (.cons (.there .here) rfl (.cons .here rfl .nil)))) rfl Dh4 (Da6 s hsl b32 W) rfl rfl (fun _=>rfl) rfl rfl rfl ?_ ?_ ?_ ?_ ?_
  ·intro l D ob pre v x tl hI hsp hlen
   obtain ⟨xd,xp,xo,xl⟩:=x;obtain ⟨hxd,hxp,hxo,hxe,hxr,hxn⟩:=hI;dsimp only at hxd hxp hxo hxe hxr hxn ⊢;have hvl:v.length≤s.length:=AS0 s v (hsp.subset (by simp));have hpl:pre.length≤s.length:=by (have:=hsp.length_le;simp only [List.length_append,List.length_singleton] at this;omega)
   refine Bm0 (Ac1 _) (news':=(l,ob)::(D,dfrO)::(b6,.cells (cellsL (pV b25)).toArray 33 (0,0))::(b25,dkO xd c)::(b7,buO xp xo xl.length)::(dkB xd++(ownB 5 xo (byc xl)++(tl++[])))) (Pick.cnt fun x=>by simp only [nC,List.length_append,List.length_singleton,List.map_cons,List.map_nil,buB,dfrO,markB,dkM];omega) ?_;refine RunCR.block ?_;refine RunCR.seq ?_;refine Cf1 8 Aj6 (.cons .here rfl (.cons .here rfl (.cons .here rfl (.cons (.there .here) rfl .nil)))) ?_;refine zw 0 ?_;refine zw 1 ?_;refine zA 2 ?_;refine Ab5 rfl (zF rfl Dq0) rfl rfl rfl (fun w hm=>(AT9 v [10] (by omega) w)) (Aa8 (.cons .here rfl (.cons .here rfl (.cons .here rfl (.cons (.there .here) rfl .nil)))) (.cons .here rfl (.cons .here rfl (.cons .here rfl (.cons .here rfl .nil)))) rfl ?_)
   refine zA 3 ?_;refine Ce8 rfl (zF rfl CV0) rfl rfl rfl (fun w hm=>(AW7 (nw':=fun z:DkX×Str×Int=>(l,ob)::(D,dfrO)::(b6,.cells (cellsL (pV b25)).toArray 33 (0,0))::(b25,dkO z.1 c)::(b7,buO xp xo xl.length)::(dkB z.1++(ownB 5 xo (byc xl)++(tl++[])))) (Bm5 (trimL v) (by have:=CG0 v;unfold trimL;omega) b25 xd c ((l,ob)::(D,dfrO)::(b6,.cells (cellsL (pV b25)).toArray 33 (0,0))::(b7,buO xp xo xl.length)::(ownB 5 xo (byc xl)++tl)) W w hL hxd (hm.pick (Pick.cnt fun x=>by simp only [nC,List.length_append,List.length_singleton,List.map_cons,List.map_nil,buB,dfrO,markB,dkM];omega))) (fun _=>(Pick.cnt fun x=>by simp only [nC,List.length_append,List.length_singleton,List.map_cons,List.map_nil,buB,dfrO,markB,dkM];omega)))) (fun z38 hz38=>(Aa8 (.cons .here rfl (.cons .here rfl (.cons .here rfl (.cons (.there .here) rfl .nil)))) (.cons .here rfl (.cons .here rfl (.cons .here rfl (.cons .here rfl .nil)))) rfl ?_))
   obtain ⟨hzd,hzs⟩:=hz38;have hrn:=CY7 (bareC c) hxr hzs;have hcod:Cod z38.2.2:=(by have h2:=CH1 hxd.sm (bareC c) (trimL v);rw [← hzs] at h2;exact h2);have he38:(echoX z38.2.1 z38.2.2).length≤4000:=(by have h1:=CH0 hxd.sm (bareC c) (trimL v);rw [← hzs] at h1;exact CP4 h1 hcod);refine zw 4 ?_;refine zw 5 ?_;refine zw 6 ?_;refine zw 7 ?_;refine zt ?_;refine zp 8 ?_;refine zd ?_;refine RunER.next ?_;refine RunCR.seq ?_;refine RunCR.seq ?_;refine Ac3 ?_;refine st ?_;refine RunER.next ?_;refine RunCR.cond rfl ?_ ?_
   ·intro c3
    have c3':=c3;clear c3;try simp only [nH] at c3'
    have hec:echoX z38.2.1 z38.2.2=sayX wError [z38.2.2]:=by (unfold echoX;rw [if_neg (by simpa using c3')])
    rw [hec] at he38 hrn;refine Ac3 ?_;refine lv (Val.makeInterface rfl Ap9) ?_;refine lv (Val.makeInterface rfl Av0) ?_;refine zn (New.buildSlice (parts:=[(0,.tmp 43),(1,.tmp 45)]) rfl Ap6 Am1 rfl rfl rfl rfl) (fun b46=>?_)
    refine zc (zF rfl Av1) (fun w hm=>Ag4 [.s wError,.n z38.2.2] _ (An0 wError [_]) b46 w (hL.mono hm) (hm.at (.head _)) (by simp) (by intro p hp;simp only [List.mem_cons,List.not_mem_nil,or_false] at hp;rcases hp with rfl | rfl;exact (show wError.length≤40 by decide);exact hcod.in64) (by simp [Prt.words])) ?_;refine RunER.next ?_;refine Ac3 ?_;refine st ?_;refine lv (Al3 rfl rfl (by simp;omega)) ?_;refine Ar7 (zF rfl CU8) rfl rfl rfl (fun w hm=>(AW7 (nw':=fun y:Eng.Own=>(l,ob)::(D,dfrO)::(b6,.cells (cellsL (pV b25)).toArray 33 (0,0))::(b25,dkO z38.1 c)::(b7,buO (buS b7) y (xl++(sayX wError [z38.2.2]++[10])).length)::(dkB z38.1++(ownB 5 y (byc (xl++(sayX wError [z38.2.2]++[10])))++(tl++[])))) (AT2 b7 xp xo xl (sayX wError [z38.2.2]++[10]) ((l,ob)::(D,dfrO)::(b6,.cells (cellsL (pV b25)).toArray 33 (0,0))::(b25,dkO z38.1 c)::(dkB z38.1++tl)) W w (hm.pick (Pick.cnt fun x=>by simp only [nC,List.length_append,List.length_singleton,List.map_cons,List.map_nil,buB,dfrO,markB,dkM];omega)) hxp hxo (by simp only [List.length_append,List.length_singleton];omega)) (fun _=>(Pick.cnt fun x=>by simp only [nC,List.length_append,List.length_singleton,List.map_cons,List.map_nil,buB,dfrO,markB,dkM];omega)))) (fun z50 hz50=>?_)
    skip
    refine st ?_;exact AR5 (z38.1,buS b7,z50,xl++(sayX wError [z38.2.2]++[10])) ⟨hzd,.inr rfl,hz50,.inr (by simp),by rw [List.map_append];exact hrn,by simp only [List.length_append,List.length_singleton];omega⟩ (Pick.cnt fun x=>by simp only [nC,List.length_append,List.length_singleton,List.map_cons,List.map_nil,buB,dfrO,markB,dkM];omega)
   intro c3;have c3':=c3;clear c3;try simp only [nH] at c3'
   have hec:echoX z38.2.1 z38.2.2=z38.2.1:=by (unfold echoX;rw [if_pos (by simpa using c3')])
   rw [hec] at he38 hrn;refine RunCR.skip ?_;refine RunER.next ?_;refine Ac3 ?_;refine st ?_;refine lv (Al3 rfl rfl (by simp;omega)) ?_;refine Ar7 (zF rfl CU8) rfl rfl rfl (fun w hm=>(AW7 (nw':=fun y:Eng.Own=>(l,ob)::(D,dfrO)::(b6,.cells (cellsL (pV b25)).toArray 33 (0,0))::(b25,dkO z38.1 c)::(b7,buO (buS b7) y (xl++(z38.2.1++[10])).length)::(dkB z38.1++(ownB 5 y (byc (xl++(z38.2.1++[10])))++(tl++[])))) (AT2 b7 xp xo xl (z38.2.1++[10]) ((l,ob)::(D,dfrO)::(b6,.cells (cellsL (pV b25)).toArray 33 (0,0))::(b25,dkO z38.1 c)::(dkB z38.1++tl)) W w (hm.pick (Pick.cnt fun x=>by simp only [nC,List.length_append,List.length_singleton,List.map_cons,List.map_nil,buB,dfrO,markB,dkM];omega)) hxp hxo (by simp only [List.length_append,List.length_singleton];omega)) (fun _=>(Pick.cnt fun x=>by simp only [nC,List.length_append,List.length_singleton,List.map_cons,List.map_nil,buB,dfrO,markB,dkM];omega)))) (fun z50 hz50=>?_)
   skip
   refine st ?_;exact AR5 (z38.1,buS b7,z50,xl++(z38.2.1++[10])) ⟨hzd,.inr rfl,hz50,.inr (by simp),by rw [List.map_append];exact hrn,by simp only [List.length_append,List.length_singleton];omega⟩ (Pick.cnt fun x=>by simp only [nC,List.length_append,List.length_singleton,List.map_cons,List.map_nil,buB,dfrO,markB,dkM];omega)
  ·intro D xs x hS hI
   obtain ⟨xd,xp,xo,xl⟩:=x;obtain ⟨hxd,hxp,hxo,hxe,hxr,hxn⟩:=hI;dsimp only at hxd hxp hxo hxe hxr hxn ⊢;subst hS;refine Am9 (Ac1 _) (news':=(D,dfrO)::(b6,.cells (cellsL (pV b25)).toArray 33 (0,0))::(b25,dkO xd c)::(b7,buO xp xo xl.length)::(dkB xd++(ownB 5 xo (byc xl)++[]))) (Pick.cnt fun x=>by simp only [nC,List.length_append,List.length_singleton,List.map_cons,List.map_nil,buB,dfrO,markB,dkM];omega) ?_;refine st ?_;refine RunEF.next ?_;refine RunCF.seq ?_;refine Ak6 ?_;refine st ?_;refine Ar7 (zF rfl Dr1) rfl rfl rfl (fun w hm=>(Cd8 b7 xp xo xl ((D,dfrO)::[]) W w (hm.pick (Pick.cnt fun x=>by simp only [nC,List.length_append,List.length_singleton,List.map_cons,List.map_nil,buB,dfrO,markB,dkM];omega)) hxo (Dm0 hxo hxe))) (fun z51 hz51=>?_)
   skip
   refine st ?_;refine RunEF.next ?_;refine Ak6 ?_;refine RunC.ret ?_;exact Aq4 (news2:=[]) [D] (Pick.cnt fun x=>by simp only [nC,List.length_append,List.length_singleton,List.map_cons,List.map_nil,buB,dfrO,markB,dkM];omega) (.r2 rfl (.tmp rfl) (.tmp rfl)) (fun w hm=>⟨by rw [hxr],hm⟩)
  ·intro D c x hst
   exact hst.elim
  ·intro D c x hp
   exact hp.elim
  intro D k xs x hq hI;exact hq.elim
end Go.Proofs.YtnmkdiagbkkmaabGreatDoor
namespace Go.Dk
open Go Go.Eng Go.Pw1 Go.Hp
def cE:Cd:=⟨⟨⟨9000,9000⟩,⟨65,66⟩,5,2000,100000,[]⟩,3200,50,20,⟨6000,6500⟩,300,900,100,200⟩
theorem Cr6 {c:Cd} {b:Bn} {s:Str} {ws:List Str} (hl:s.length≤200) (h:wordsX s=some (wDeep::ws)) (hn:numsX ws=some [0]) (hr:0 < b.views.length):lineX c b s=deepD c b 0 :=
  AG1 hl h (by decide) (by decide) (show verbX wDeep=some ⟨1,true,fun c b n=>deepD c b (N n 0)⟩ from rfl) hn rfl (fun _=>hr)
theorem Ah8 {c:Cd} {b b' b2:Bn} {s r t:Str} {e:Int} {l:List Str} (h:stepX c b s=(b',r,e)) (h2:runL c b' l=(b2,t)):runL c b (s::l)=(b2,echoX r e++10::t):=by
  unfold runL;rw [h];dsimp only;rw [h2]
def eB0:Bn:=⟨[],⟨[],[]⟩⟩
def eB1:Bn:=⟨[⟨⟨⟨9000,9000⟩,⟨65,66⟩,5,2000,100000,[]⟩,⟨0,0,0,0⟩,false⟩],⟨[],[]⟩⟩
def eB2:Bn:=⟨[⟨⟨⟨9000,9000⟩,⟨65,66⟩,5,2000,100000,[⟨⟨1100,1101⟩,⟨0,0⟩,⟨904,905⟩,⟨0,0⟩,0⟩]⟩,⟨0,0,0,0⟩,false⟩],⟨[],[]⟩⟩
def eB3:Bn:=⟨[⟨⟨⟨9000,9000⟩,⟨65,66⟩,5,2000,100000,[⟨⟨1100,1101⟩,⟨0,0⟩,⟨904,905⟩,⟨0,0⟩,3000⟩]⟩,⟨0,0,0,0⟩,false⟩],⟨[],[]⟩⟩
def eB4:Bn:=⟨[⟨⟨⟨9000,9000⟩,⟨65,66⟩,5,2000,100000,[⟨⟨1100,1101⟩,⟨0,0⟩,⟨904,905⟩,⟨0,0⟩,3000⟩,⟨⟨1050,1050⟩,⟨0,0⟩,⟨990,992⟩,⟨0,0⟩,0⟩]⟩,⟨0,0,0,0⟩,false⟩],⟨[],[]⟩⟩
def eB5:Bn:=⟨[⟨⟨⟨9000,9000⟩,⟨65,66⟩,5,2000,100000,[⟨⟨1100,1101⟩,⟨0,0⟩,⟨904,905⟩,⟨0,0⟩,3000⟩,⟨⟨1050,1050⟩,⟨0,0⟩,⟨990,992⟩,⟨0,0⟩,0⟩]⟩,⟨0,0,0,0⟩,false⟩],⟨[],[]⟩⟩
def eB6:Bn:=⟨[⟨⟨⟨9000,9000⟩,⟨65,66⟩,5,2000,100000,[⟨⟨1100,1101⟩,⟨0,0⟩,⟨904,905⟩,⟨0,0⟩,3000⟩,⟨⟨1050,1050⟩,⟨0,0⟩,⟨990,992⟩,⟨0,0⟩,0⟩,⟨⟨1000,1002⟩,⟨0,0⟩,⟨1005,1006⟩,⟨0,0⟩,0⟩]⟩,⟨0,0,0,0⟩,false⟩],⟨[],[]⟩⟩
def eB7:Bn:=⟨[⟨⟨⟨9000,9000⟩,⟨65,66⟩,5,2000,100000,[⟨⟨1100,1101⟩,⟨0,0⟩,⟨904,905⟩,⟨0,0⟩,3000⟩,⟨⟨1050,1050⟩,⟨0,0⟩,⟨990,992⟩,⟨0,0⟩,0⟩,⟨⟨1000,1002⟩,⟨0,0⟩,⟨1005,1006⟩,⟨0,0⟩,0⟩]⟩,⟨0,0,0,0⟩,false⟩],⟨[],[]⟩⟩
def eB8:Bn:=⟨[⟨⟨⟨9000,9000⟩,⟨65,66⟩,5,2000,100000,[⟨⟨1100,1101⟩,⟨0,0⟩,⟨904,905⟩,⟨0,0⟩,3000⟩,⟨⟨1050,1050⟩,⟨0,0⟩,⟨990,992⟩,⟨0,0⟩,0⟩,⟨⟨1000,1002⟩,⟨0,0⟩,⟨1005,1006⟩,⟨0,0⟩,0⟩]⟩,⟨0,0,0,0⟩,false⟩],⟨[],[]⟩⟩
def eB9:Bn:=⟨[⟨⟨⟨9000,9000⟩,⟨65,66⟩,5,2000,100000,[⟨⟨1100,1101⟩,⟨0,0⟩,⟨904,905⟩,⟨0,0⟩,3000⟩,⟨⟨1050,1050⟩,⟨0,0⟩,⟨990,992⟩,⟨0,0⟩,0⟩,⟨⟨1000,1002⟩,⟨0,0⟩,⟨1005,1006⟩,⟨0,0⟩,0⟩]⟩,⟨2,1,0,3⟩,true⟩],⟨[],[]⟩⟩
def eB10:Bn:=⟨[⟨⟨⟨9000,9000⟩,⟨65,66⟩,5,2000,100000,[⟨⟨1100,1101⟩,⟨0,0⟩,⟨904,905⟩,⟨0,0⟩,3000⟩,⟨⟨1050,1050⟩,⟨0,0⟩,⟨990,992⟩,⟨0,0⟩,0⟩,⟨⟨1000,1002⟩,⟨0,0⟩,⟨1005,1006⟩,⟨0,0⟩,0⟩]⟩,⟨2,1,0,3⟩,true⟩],⟨[],[]⟩⟩
def eB11:Bn:=⟨[⟨⟨⟨9000,9000⟩,⟨65,66⟩,5,2000,100000,[⟨⟨1100,1101⟩,⟨0,0⟩,⟨904,905⟩,⟨0,0⟩,3000⟩,⟨⟨1050,1050⟩,⟨0,0⟩,⟨990,992⟩,⟨0,0⟩,0⟩,⟨⟨1000,1002⟩,⟨0,0⟩,⟨1005,1006⟩,⟨0,0⟩,0⟩]⟩,⟨2,1,0,3⟩,true⟩],⟨[],[]⟩⟩
def eB12:Bn:=⟨[⟨⟨⟨9000,9000⟩,⟨65,66⟩,5,2000,100000,[⟨⟨1100,1101⟩,⟨0,0⟩,⟨904,905⟩,⟨0,0⟩,3000⟩,⟨⟨1050,1050⟩,⟨0,0⟩,⟨990,992⟩,⟨0,0⟩,0⟩,⟨⟨1000,1002⟩,⟨0,0⟩,⟨1005,1006⟩,⟨0,0⟩,0⟩]⟩,⟨2,1,0,3⟩,true⟩],⟨[⟨1,[[102,97,108,108,115],[109,105,108,108],[112,97,115,115]]⟩],[]⟩⟩
def eB13:Bn:=⟨[⟨⟨⟨9000,9000⟩,⟨65,66⟩,5,2000,100000,[⟨⟨1100,1101⟩,⟨0,0⟩,⟨904,905⟩,⟨0,0⟩,3000⟩,⟨⟨1050,1050⟩,⟨0,0⟩,⟨990,992⟩,⟨0,0⟩,0⟩,⟨⟨1000,1002⟩,⟨0,0⟩,⟨1005,1006⟩,⟨0,0⟩,0⟩]⟩,⟨2,1,0,3⟩,true⟩],⟨[⟨1,[[102,97,108,108,115],[109,105,108,108],[112,97,115,115]]⟩,⟨2,[[109,105,108,108],[108,97,107,101]]⟩],[]⟩⟩
def eB14:Bn:=⟨[⟨⟨⟨9000,9000⟩,⟨65,66⟩,5,2000,100000,[⟨⟨1100,1101⟩,⟨0,0⟩,⟨904,905⟩,⟨0,0⟩,3000⟩,⟨⟨1050,1050⟩,⟨0,0⟩,⟨990,992⟩,⟨0,0⟩,0⟩,⟨⟨1000,1002⟩,⟨0,0⟩,⟨1005,1006⟩,⟨0,0⟩,0⟩]⟩,⟨2,1,0,3⟩,true⟩],⟨[⟨1,[[102,97,108,108,115],[109,105,108,108],[112,97,115,115]]⟩,⟨2,[[109,105,108,108],[108,97,107,101]]⟩],[⟨0,[63],[109,105,42]⟩]⟩⟩
def eB15:Bn:=⟨[⟨⟨⟨9000,9000⟩,⟨65,66⟩,5,2000,100000,[⟨⟨1100,1101⟩,⟨0,0⟩,⟨904,905⟩,⟨0,0⟩,3000⟩,⟨⟨1050,1050⟩,⟨0,0⟩,⟨990,992⟩,⟨0,0⟩,0⟩,⟨⟨1000,1002⟩,⟨0,0⟩,⟨1005,1006⟩,⟨0,0⟩,0⟩]⟩,⟨2,1,0,3⟩,true⟩],⟨[⟨1,[[102,97,108,108,115],[109,105,108,108],[112,97,115,115]]⟩,⟨2,[[109,105,108,108],[108,97,107,101]]⟩],[⟨0,[63],[109,105,42]⟩,⟨2,[42],[109,105,108,108]⟩]⟩⟩
def eB16:Bn:=⟨[⟨⟨⟨9000,9000⟩,⟨65,66⟩,5,2000,100000,[⟨⟨1100,1101⟩,⟨0,0⟩,⟨904,905⟩,⟨0,0⟩,3000⟩,⟨⟨1050,1050⟩,⟨0,0⟩,⟨990,992⟩,⟨0,0⟩,0⟩,⟨⟨1000,1002⟩,⟨0,0⟩,⟨1005,1006⟩,⟨0,0⟩,0⟩]⟩,⟨2,1,0,3⟩,true⟩],⟨[⟨1,[[102,97,108,108,115],[109,105,108,108],[112,97,115,115]]⟩,⟨2,[[109,105,108,108],[108,97,107,101]]⟩],[⟨0,[63],[109,105,42]⟩,⟨2,[42],[109,105,108,108]⟩]⟩⟩
theorem eS0:stepX cE eB0 [118,105,101,119]=(eB1,[118,105,101,119,32,48],0):=by kernel_rfl
theorem eS1:stepX cE eB1 [116,104,105,110,103,32,48,32,49,49,48,48,32,49,49,48,49,32,57,48,52,32,57,48,53]=(eB2,[116,104,105,110,103,32,48,32,48],0):=by kernel_rfl
theorem eS2:stepX cE eB2 [109,97,114,107,32,48,32,48,32,51,48,48,48]=(eB3,[109,97,114,107,32,53,56,53,48,48,48,32,53,57,51,57,57,57],0):=by kernel_rfl
theorem eS3:stepX cE eB3 [116,104,105,110,103,32,48,32,49,48,53,48,32,49,48,53,48,32,57,57,48,32,57,57,50]=(eB4,[116,104,105,110,103,32,49,32,48],0):=by kernel_rfl
theorem eS4:stepX cE eB4 [102,97,114,32,48,32,49]=(eB5,[102,97,114,32,57,53,57,49,32,49,48,50,52,49],0):=by kernel_rfl
theorem eS5:stepX cE eB5 [116,104,105,110,103,32,48,32,49,48,48,48,32,49,48,48,50,32,49,48,48,53,32,49,48,48,54]=(eB6,[116,104,105,110,103,32,50,32,50],0):=by kernel_rfl
theorem eS6:stepX cE eB6 [109,111,118,101,100,32,48]=(eB7,[109,111,118,101,100,32,52],0):=by kernel_rfl
theorem eS7:stepX cE eB7 [109,97,114,107,32,48,32,49,32,52,48,48,48]=(eB8,[],4):=by kernel_rfl
theorem eS8:stepX cE eB8 [116,114,105,109,32,48]=(eB9,[116,114,105,109,32,50,32,49,32,48,32,51],0):=by kernel_rfl
theorem eS9:stepX cE eB9 [116,104,105,110,103,32,48,32,48,32,48,32,48,32,48]=(eB10,[],6):=by kernel_rfl
theorem eDl:lineX cE eB10 [100,101,101,112,32,48]=deepD cE eB10 0:=Cr6 (by decide) (show wordsX [100,101,101,112,32,48]=some (wDeep::[[48]]) by kernel_rfl) (show numsX [[48]]=some [0] by kernel_rfl) (by decide)
theorem CP9 {c:Cd} {b:Bn} {i:Nat} {v:Vw} {x y:Int} (hv:b.views.getD i noVw=v) (hu:v.up=true) (h:depthsX (cardV c v) v.cuts=((x,y),0)):deepD c b i = .ok (b,sayX wDeep [x,y]):=by
  unfold deepD;dsimp only;rw [hv,if_neg (by rw [hu];decide),h];rfl
def eV:Vw:=⟨⟨⟨9000,9000⟩,⟨65,66⟩,5,2000,100000,[⟨⟨1100,1101⟩,⟨0,0⟩,⟨904,905⟩,⟨0,0⟩,3000⟩,⟨⟨1050,1050⟩,⟨0,0⟩,⟨990,992⟩,⟨0,0⟩,0⟩,⟨⟨1000,1002⟩,⟨0,0⟩,⟨1005,1006⟩,⟨0,0⟩,0⟩]⟩,⟨2,1,0,3⟩,true⟩
theorem eD4:depthsX (cardV cE eV) eV.cuts=((2956,11700),0):=by rw [BM1];kernel_rfl
theorem eD5:deepD cE eB10 0 = .ok (eB10,sayX wDeep [2956,11700]):=CP9 (v:=eV) rfl rfl eD4
theorem eD6:sayX wDeep [2956,11700]=[100,101,101,112,32,50,57,53,54,32,49,49,55,48,48]:=by kernel_rfl
theorem CX7 {c:Cd} {b b':Bn} {s r:Str} (h:lineX c b s = .ok (b',r)):stepX c b s=(b',r,0):=by unfold stepX;rw [h]
theorem Dv6:stepX cE eB10 [100,101,101,112,32,48]=(eB11,[100,101,101,112,32,50,57,53,54,32,49,49,55,48,48],0):=CX7 (by rw [eDl,eD5,eD6];rfl)
theorem Dv5:stepX cE eB11 [98,111,120,32,49,32,102,97,108,108,115,32,109,105,108,108,32,112,97,115,115]=(eB12,[98,111,120,32,48],0):=by kernel_rfl
theorem Dv4:stepX cE eB12 [98,111,120,32,50,32,109,105,108,108,32,108,97,107,101]=(eB13,[98,111,120,32,49],0):=by kernel_rfl
theorem Dv3:stepX cE eB13 [99,97,114,100,32,48,32,63,32,109,105,42]=(eB14,[99,97,114,100,32,48],0):=by kernel_rfl
theorem Dv2:stepX cE eB14 [99,97,114,100,32,50,32,42,32,109,105,108,108]=(eB15,[99,97,114,100,32,49,32,105,115,32,48,32,49,32,105,115,32,49,32,51],0):=by kernel_rfl
theorem Dv1:stepX cE eB15 [119,104,105,99,104,32,48]=(eB16,[119,104,105,99,104,32,49],0):=by kernel_rfl
def eScript:Str:=[118,105,101,119,10,116,104,105,110,103,32,48,32,49,49,48,48,32,49,49,48,49,32,57,48,52,32,57,48,53,10,109,97,114,107,32,48,32,48,32,51,48,48,48,10,116,104,105,110,103,32,48,32,49,48,53,48,32,49,48,53,48,32,57,57,48,32,57,57,50,10,102,97,114,32,48,32,49,10,116,104,105,110,103,32,48,32,49,48,48,48,32,49,48,48,50,32,49,48,48,53,32,49,48,48,54,10,109,111,118,101,100,32,48,10,109,97,114,107,32,48,32,49,32,52,48,48,48,10,116,114,105,109,32,48,10,116,104,105,110,103,32,48,32,48,32,48,32,48,32,48,10,100,101,101,112,32,48,10,98,111,120,32,49,32,102,97,108,108,115,32,109,105,108,108,32,112,97,115,115,10,98,111,120,32,50,32,109,105,108,108,32,108,97,107,101,10,99,97,114,100,32,48,32,63,32,109,105,42,10,99,97,114,100,32,50,32,42,32,109,105,108,108,10,119,104,105,99,104,32,48,10]
def eSays:Str:=[118,105,101,119,32,48,10,116,104,105,110,103,32,48,32,48,10,109,97,114,107,32,53,56,53,48,48,48,32,53,57,51,57,57,57,10,116,104,105,110,103,32,49,32,48,10,102,97,114,32,57,53,57,49,32,49,48,50,52,49,10,116,104,105,110,103,32,50,32,50,10,109,111,118,101,100,32,52,10,101,114,114,111,114,32,52,10,116,114,105,109,32,50,32,49,32,48,32,51,10,101,114,114,111,114,32,54,10,100,101,101,112,32,50,57,53,54,32,49,49,55,48,48,10,98,111,120,32,48,10,98,111,120,32,49,10,99,97,114,100,32,48,10,99,97,114,100,32,49,32,105,115,32,48,32,49,32,105,115,32,49,32,51,10,119,104,105,99,104,32,49,10]
theorem Dr7:linesX eScript []=[[118,105,101,119],[116,104,105,110,103,32,48,32,49,49,48,48,32,49,49,48,49,32,57,48,52,32,57,48,53],[109,97,114,107,32,48,32,48,32,51,48,48,48],[116,104,105,110,103,32,48,32,49,48,53,48,32,49,48,53,48,32,57,57,48,32,57,57,50],[102,97,114,32,48,32,49],[116,104,105,110,103,32,48,32,49,48,48,48,32,49,48,48,50,32,49,48,48,53,32,49,48,48,54],[109,111,118,101,100,32,48],[109,97,114,107,32,48,32,49,32,52,48,48,48],[116,114,105,109,32,48],[116,104,105,110,103,32,48,32,48,32,48,32,48,32,48],[100,101,101,112,32,48],[98,111,120,32,49,32,102,97,108,108,115,32,109,105,108,108,32,112,97,115,115],[98,111,120,32,50,32,109,105,108,108,32,108,97,107,101],[99,97,114,100,32,48,32,63,32,109,105,42],[99,97,114,100,32,50,32,42,32,109,105,108,108],[119,104,105,99,104,32,48]]:=by kernel_rfl
theorem Dv7:(runL cE noBn (linesX eScript [])).2=eSays:=by
  rw [Dr7];have h:=(Ah8 eS0 (Ah8 eS1 (Ah8 eS2 (Ah8 eS3 (Ah8 eS4 (Ah8 eS5 (Ah8 eS6 (Ah8 eS7 (Ah8 eS8 (Ah8 eS9 (Ah8 Dv6 (Ah8 Dv5 (Ah8 Dv4 (Ah8 Dv3 (Ah8 Dv2 (Ah8 Dv1 (show runL cE eB16 []=(eB16,[]) from rfl)))))))))))))))));rw [show noBn=eB0 from rfl];refine (congrArg Prod.snd h).trans ?_;exact (show _=eSays by kernel_rfl)
theorem Du4:runX cE eScript=(eSays,0):=by
  unfold runX;rw [if_neg (by decide +kernel),if_neg (fun h=>h.2 (by decide +kernel)),if_pos (by decide +kernel),show bareC cE=cE from rfl,Dv7]
end Go.Dk
namespace Go.Proofs.YtnmkdiagbkkmaabGreatDoor
open Go Go.Eng
theorem Dr2:Enters Tryz.prog 23:=Aa1 Tryz.func23 (by kernel_rfl) rfl
theorem Dr0:Enters Tryz.prog 27:=Aa1 Tryz.func27 (by kernel_rfl) rfl
theorem Cv3:Enters Tryz.prog 59:=Aa1 Tryz.func59 (by kernel_rfl) rfl
theorem Cn0:placesB Tryz.prog 26=some [(0,2),(2,2),(4,1),(5,1),(6,1),(7,1)]:=by kernel_rfl
theorem Cm9:placesB Tryz.prog 28=some [(0,8),(8,1),(9,1),(10,1),(11,2),(13,1),(14,1),(15,1),(16,1)]:=by kernel_rfl
theorem Cf8:zeroB Tryz.prog 26=some [.int .i64 0,.int .i64 0,.int .i64 0,.int .i64 0,.int .i64 0,.int .i64 0,.int .i64 0,.slice none 0 0]:=by kernel_rfl
end Go.Proofs.YtnmkdiagbkkmaabGreatDoor
namespace Go.Proofs.YtnmkdiagbkkmaabGreatDoor
open Go Go.Eng Go.Dk Go.RowKit Go.Pw1 Go.Hp

theorem CB8 (c:Cd) (q:Option Addr) (b o cap:Nat) (s:Str) (W:World) (hS:Sl W q b o 9 (c.p.things.map Th.cells)) (hq:q=none→cap=0) (hl:c.p.things.length≤1000) (hL:Lw Tryz.prog W) (hs:s.length≤100000∨131072 < s.length) :
    Calls Tryz.prog 23 #[c.v q cap,.string (bs s)] W (Pure (.tuple #[.string (bs (runX c s).1),.int .i64 (runX c s).2]) W):=by
  by_cases h1:131072 < s.length
  · exact CR6 c q b o cap s W h1
  · have hs2:s.length≤100000:=by omega
    by_cases h2:s ≠ []∧Lib.hasSuffix s [10]=false
    · exact CR7 c q b o cap s W h1 h2.1 h2.2
    · cases hc:cardIs c with
      | false=>exact Di7 c q b o cap s W hS hq hl hL h1 (Cy1 h2) hc
      | true=>exact Dt2 c q b o cap s W hS hq hl hL hs2 (Cy1 h2) hc
theorem AM0 (lo hi:Int) (W:World):Calls Tryz.prog 59 #[.int .i64 lo,.int .i64 hi] W (Pure (.agg #[.int .i64 lo,.int .i64 hi]) W):=by
  refine Aa0 Tryz.func59 rfl rfl ?_;refine st ?_;refine zn (New.alloc Ae3) (fun b4=>?_)
  refine lv (Val.build (parts:=[(0,.tmp 5),(1,.tmp 6)]) rfl Ae3 Am3 rfl) ?_;refine Ab0 (Sto.store rfl rfl .here Ag7 rfl rfl) rfl rfl ?_;refine su ?_;exact Aa4 (.r1 rfl (.agg rfl (.head _) Ag7 rfl)) (by first | rfl | simp)
theorem BM3 (W:World):Calls Tryz.prog 27 #[] W (Pure (cE.v none 0) W):=by
  refine Aa0 Tryz.func27 rfl rfl ?_;refine st ?_;refine zn (New.alloc Bm9) (fun b0=>?_)
  refine zc (zF rfl Cv3) (fun w hm=>AM0 _ _ w) ?_;refine zc (zF rfl Cv3) (fun w hm=>AM0 _ _ w) ?_;refine lv (Val.build (parts:=[(0,.tmp 2),(1,.tmp 3),(2,.const (.int .i64 5)),(3,.const (.int .i64 2000)),(4,.const (.int .i64 100000))]) rfl Cf8 Cn0 rfl) ?_;refine zn (New.alloc Cf8) (fun b1=>?_)
  refine Ab0 (Sto.store rfl rfl .here Bn6 rfl rfl) rfl rfl ?_;refine st ?_;refine Ac5 2 Aj6 (.cons .here rfl (.cons .here rfl .nil)) ?_;refine zw 0 ?_;refine zA 1 ?_;refine Ab5 rfl (zF rfl Cv3) rfl rfl rfl (fun w hm=>AM0 _ _ w) (Aa8 (.cons .here rfl (.cons .here rfl .nil)) (.cons .here rfl (.cons .here rfl .nil)) rfl ?_)
  refine zt ?_;refine zo 2 rfl (Val.build (parts:=[(0,.tmp 5),(1,.const (.int .i64 3200)),(2,.const (.int .i64 50)),(3,.const (.int .i64 20)),(4,.tmp 6),(5,.const (.int .i64 300)),(6,.const (.int .i64 900)),(7,.const (.int .i64 100)),(8,.const (.int .i64 200))]) rfl Bm9 Cm9 rfl) ?_;refine zB 3 ?_;refine Ac0 rfl (Sto.store rfl rfl (.there .here) BF5 rfl rfl) rfl rfl (Ab9 ?_)
  refine zd ?_;refine su ?_;exact Aa4 (.r1 rfl (.agg rfl (.tail _ (.head _)) BF5 rfl)) (by first | rfl | simp)
theorem Cc5 (W:World) (hL:Lw Tryz.prog W):Calls Tryz.prog 23 #[cE.v none 0,.string (bs eScript)] W (Pure (.tuple #[.string (bs eSays),.int .i64 0]) W):=by
  have h:=CB8 cE none 0 0 0 eScript W ⟨fun h=>absurd rfl h,fun x hx=>(by cases hx),fun i h=>(by cases h)⟩ (fun _=>rfl) (by decide) hL (.inl (by decide +kernel));rw [Du4] at h;exact h
theorem BL4 (t:Str) (ht:t=eSays) (W:World) (hL:Lw Tryz.prog W):Calls Tryz.prog 23 #[cE.v none 0,.string (bs eScript)] W (Pure (.tuple #[.string (bs t),.int .i64 0]) W):=by
  rw [ht];exact Cc5 W hL
set_option maxRecDepth 100000 in
theorem Az5 (W:World) (hL:Lw Tryz.prog W):Calls Tryz.prog 9 #[] W (Pure (.bool true) W):=by
  obtain ⟨t,ht⟩:∃ t,t=eSays:=⟨_,rfl⟩;refine Aa0 Tryz.func9 rfl rfl ?_;refine st ?_;refine zc (zF rfl Dr0) (fun w hm=>BM3 w) ?_;refine zc (zF rfl Dr2) (fun w hm=>BL4 t ht w (hL.mono hm)) ?_;refine lv (Ar5 (a:=t) (b:=eSays) rfl rfl) ?_;refine Aj2 (dj:=10) true rfl (by simp [ht]) ?_;refine su ?_;exact Aa4 (.r1 rfl (.tmp rfl)) (by first | rfl | simp)
end Go.Proofs.YtnmkdiagbkkmaabGreatDoor
namespace Go.Dk
open Go Go.Eng Go.Pw1 Go.Hp
structure VwRight (c:Cd) (v:Vw):Prop where
  pw:(powerX v.p).2=0
  s1:v.p.focal=c.p.focal
  s2:v.p.base=c.p.base
  s3:v.p.tilt=c.p.tilt
  s4:v.p.near=c.p.near
  s5:v.p.far=c.p.far
  n:v.p.things.length≤12
  up:v.up=true→(hurtsX (cardV c v) v.cuts).2.2=0
  dn:v.up=false→v.cuts=noTr
structure Right (c:Cd) (b:Bn):Prop where
  v:∀ v∈b.views,VwRight c v
  nv:b.views.length≤4
  nb:b.heap.boxes.length≤4
  nc:b.heap.cards.length≤8
  w:(WhyX b.heap).2=0
theorem BX8 (c:Cd):Right c noBn:=⟨fun v h=>(by cases h),by decide,by decide,by decide,by kernel_rfl⟩
variable {c:Cd} {b:Bn}
theorem Right.put (h:Right c b) {i:Nat} {v:Vw} (hv:VwRight c v):Right c (putV b i v) :=
  ⟨fun x hx=>by
    rcases List.mem_or_eq_of_mem_set hx with hx | rfl
    · exact h.v x hx
    · exact hv,by show (b.views.set i v).length≤4;rw [List.length_set];exact h.nv,h.nb,h.nc,h.w⟩
theorem Right.at (h:Right c b) {i:Nat} (hi:i < b.views.length):VwRight c (b.views.getD i noVw):=by
  rw [List.getD_eq_getElem?_getD,List.getElem?_eq_getElem hi];exact h.v _ (List.getElem_mem hi)
theorem Bw6 {p:Pr} {n:Int} (h:(whyX p n).2=0) (hk:∀ k,truthsX p [n] = .error k→k ≠ 0):(powerX p).2=0:=by
  unfold whyX at h
  split at h
  · rename_i k hk2
    exact absurd h (hk k hk2)
  · rename_i w hw
    unfold truthsX at hw
    split at hw
    · cases hw
    · rename_i u hu
      have h1:=(AI5 hu).1;unfold powerX truthsX openX;rw [if_pos h1];simp only [List.any_nil,Bool.false_eq_true,if_false];rw [hw]
theorem Ci6 {p:Pr} {l:List Int} {k:Int} (h:truthsX p l = .error k):k ≠ 0:=by
  unfold truthsX openX lookX at h
  split at h
  · rename_i h1
    cases h
    split at h1
    · split at h1
      · cases h1;decide
      · cases h1
    · cases h1;decide
  · split at h
    · cases h
    · cases h;decide
theorem Ce1 (hc:cardIs c=true):(powerX (bareC c).p).2=0:=by
  have h1:isPair c.p=true:=by
    unfold cardIs at hc;simp only [Bool.and_eq_true,Bool.not_eq_true',decide_eq_false_iff_not] at hc;have h2:=hc.1.1
    cases hp:isPair c.p with
    | true=>rfl
    | false =>
      exfalso
      apply h2
      unfold powerX truthsX openX;rw [hp];rfl
  have h3:isPair (bareC c).p=true:=by
    unfold isPair at h1 ⊢;simp only [Bool.and_eq_true] at h1 ⊢;exact ⟨⟨h1.1.1,(show decide (((0:Nat):Int)≤12)=true by decide)⟩,rfl⟩
  unfold powerX truthsX openX;rw [if_pos h3];rfl
theorem BX5 (hc:cardIs c=true) (h:Right c b) {b':Bn} {r:Str} (e:viewD (bareC c) b = .ok (b',r)):Right c b':=by
  unfold viewD at e
  split at e
  · rename_i hl
    cases e
    refine ⟨fun v hv=>?_,by simp;omega,h.nb,h.nc,h.w⟩
    rcases List.mem_append.1 hv with hv | hv
    · exact h.v v hv
    · rw [List.mem_singleton] at hv
      subst hv;exact ⟨Ce1 hc,rfl,rfl,rfl,rfl,rfl,(show (0:Nat)≤12 by decide),fun h=>(by cases h),fun _=>rfl⟩
  · cases e
theorem BH0 (h:Right c b) {i:Nat} (hi:i < b.views.length) {x1 x2 y1 y2:Int} {b':Bn} {r:Str} (e:thingD b i x1 x2 y1 y2 = .ok (b',r)):Right c b':=by
  have hv:=h.at hi;unfold thingD at e;dsimp only at e
  split at e
  · cases e
  · rename_i hu
    split at e
    · cases e
    · rename_i hl
      split at e
      · rename_i hw
        cases e
        exact h.put ⟨Bw6 hw (fun k hk=>Ci6 hk),hv.s1,hv.s2,hv.s3,hv.s4,hv.s5,by rw [List.length_append,List.length_singleton];omega,fun h2=>absurd h2 hu,hv.dn⟩
      · cases e
theorem BX9 (h:Right c b) {i k:Nat} (hi:i < b.views.length) {far:Int} {b':Bn} {r:Str} (e:markD b i k far = .ok (b',r)):Right c b':=by
  have hv:=h.at hi;unfold markD at e;dsimp only at e
  split at e
  · cases e
  · split at e
    · cases e
    · rename_i hu
      split at e
      · rename_i hw
        cases e
        exact h.put ⟨hw,hv.s1,hv.s2,hv.s3,hv.s4,hv.s5,by rw [List.length_modify];exact hv.n,fun h2=>absurd h2 hu,hv.dn⟩
      · cases e
theorem BW4 {x:Cd} (h:(trimX x).2=0):(hurtsX x (trimX x).1).2.2=0:=by
  unfold trimX at h ⊢
  split at h
  · rename_i ho
    rw [if_pos ho]
    split at h
    · rename_i t ht
      dsimp only;obtain ⟨h1,-,h3⟩:=AI6 ho;obtain ⟨t1,t2,-⟩:=Di0 (Ax8 h1).1 ht
      have h5:openM x [t]=0:=by
        unfold openM;rw [if_pos h1,if_pos (by simp [t1]),h3]
      unfold hurtsX;rw [if_pos h5];unfold fitT at t2;rw [if_pos (by simpa using t2)]
    · cases h
  · rename_i ho
    exact absurd h ho
theorem BX6 (h:Right c b) {i:Nat} (hi:i < b.views.length) {b':Bn} {r:Str} (e:trimD (bareC c) b i = .ok (b',r)):Right c b':=by
  have hv:=h.at hi;unfold trimD at e;dsimp only at e
  split at e
  · cases e
  · split at e
    · rename_i ht
      cases e
      refine h.put ⟨hv.pw,hv.s1,hv.s2,hv.s3,hv.s4,hv.s5,hv.n,fun _=>?_,fun h2=>(by cases h2)⟩
      exact BW4 (x:=cardV c (b.views.getD i noVw)) ht
    · cases e
theorem Cl8 (h:Right c b) {i:Nat} (hi:i < b.views.length) {b':Bn} {r:Str} (e:offD b i = .ok (b',r)):Right c b':=by
  have hv:=h.at hi;unfold offD at e;dsimp only at e
  split at e
  · cases e
  · cases e
    exact h.put ⟨hv.pw,hv.s1,hv.s2,hv.s3,hv.s4,hv.s5,hv.n,fun h2=>(by cases h2),fun _=>rfl⟩
theorem Cl9 (h:Right c b) {w:List Str} {b':Bn} {r:Str} (e:boxD b w = .ok (b',r)):Right c b':=by
  unfold boxD at e
  split at e
  · cases e
  · split at e
    · cases e
    · split at e
      · cases e
      · rename_i hl
        dsimp only at e
        split at e
        · rename_i hw
          cases e
          exact ⟨h.v,h.nv,by simp;omega,h.nc,hw⟩
        · cases e
theorem BY2 (h:Right c b) {w:List Str} {b':Bn} {r:Str} (e:cardD b w = .ok (b',r)):Right c b':=by
  unfold cardD at e
  split at e
  · cases e
  · split at e
    · cases e
    · split at e
      · cases e
      · rename_i hl
        split at e
        · cases e
        · dsimp only at e
          split at e
          · cases e
          · rename_i hw
            split at e
            · cases e
            · cases e
              exact ⟨h.v,h.nv,h.nb,by simp;omega,Classical.not_not.1 hw⟩
theorem BY3 {i k:Nat} {b':Bn} {r:Str} (e:farD b i k = .ok (b',r)):b'=b:=by
  unfold farD at e;dsimp only at e
  split at e
  · cases e
  · split at e <;> cases e;rfl
theorem Bw4 {i:Nat} {b':Bn} {r:Str} (e:movedD b i = .ok (b',r)):b'=b:=by
  unfold movedD at e;dsimp only at e
  split at e <;> cases e;rfl
theorem Bw5 {i:Nat} {t:Tr} {b':Bn} {r:Str} (e:hurtsD c b i t = .ok (b',r)):b'=b:=by
  unfold hurtsD at e;dsimp only at e
  split at e
  · cases e;rfl
  · split at e <;> cases e;rfl
theorem BH3 {i:Nat} {b':Bn} {r:Str} (e:deepD c b i = .ok (b',r)):b'=b:=by
  unfold deepD at e;dsimp only at e
  split at e
  · cases e
  · split at e <;> cases e;rfl
theorem BH2 {b':Bn} {r:Str} (e:waysD b = .ok (b',r)):b'=b:=by
  unfold waysD at e
  split at e <;> cases e;rfl
theorem Bw3 {k:Nat} {b':Bn} {r:Str} (e:whichD b k = .ok (b',r)):b'=b:=by
  unfold whichD at e
  split at e
  · cases e
  · split at e
    · cases e
    · cases e;rfl
theorem BY1 (hc:cardIs c=true) (h:Right c b) {x:Str} {v:Vb} (hv:verbX x=some v) {n:List Int} (hn:v.about=true→N n 0 < b.views.length) {b':Bn} {r:Str} (e:v.does (bareC c) b n = .ok (b',r)):Right c b':=by
  obtain ⟨k,hk⟩:=AX6 hv;simp only [verbsX,List.mem_cons,Prod.mk.injEq,List.not_mem_nil,or_false] at hk
  rcases hk with ⟨-,rfl⟩ | ⟨-,rfl⟩ | ⟨-,rfl⟩ | ⟨-,rfl⟩ | ⟨-,rfl⟩ | ⟨-,rfl⟩ | ⟨-,rfl⟩ | ⟨-,rfl⟩ | ⟨-,rfl⟩ | ⟨-,rfl⟩ | ⟨-,rfl⟩
  · exact BX5 hc h e
  · exact BH0 h (hn rfl) e
  · exact BX9 h (hn rfl) e
  · rw [BY3 e];exact h
  · rw [Bw4 e];exact h
  · rw [Bw5 e];exact h
  · exact BX6 h (hn rfl) e
  · rw [BH3 e];exact h
  · exact Cl8 h (hn rfl) e
  · rw [BH2 e];exact h
  · rw [Bw3 e];exact h
theorem BY0 (hc:cardIs c=true) (h:Right c b) {s:Str} {b':Bn} {r:Str} (e:lineX (bareC c) b s = .ok (b',r)):Right c b':=by
  unfold lineX at e
  split at e
  · cases e
  · split at e
    · cases e
    · split at e
      · exact Cl9 h e
      · split at e
        · exact BY2 h e
        · split at e
          · cases e
          · rename_i hv
            split at e
            · cases e
            · split at e
              · cases e
              · split at e
                · cases e
                · rename_i hr
                  exact BY1 hc h hv (fun h1=>Classical.byContradiction fun h2=>hr ⟨h1,h2⟩) e
theorem BX7 (hc:cardIs c=true) (h:Right c b) (s:Str):Right c (stepX (bareC c) b s).1:=by
  unfold stepX
  cases e:lineX (bareC c) b s with
  | ok y=>exact BY0 hc h e
  | error k=>exact h
end Go.Dk
namespace Go.Proofs.YtnmkdiagbkkmaabGreatDoor
open Go Go.Eng Go.Pw1

theorem AN0 (n lo hi:Int) (W:World):Calls Tryz.prog 98 #[.int .i64 n,.int .i64 lo,.int .i64 hi] W (Pure (.bool (within n lo hi)) W):=by
  refine Aa0 Tryz.func98 rfl rfl ?_;refine st ?_
  refine Ab3 (dj:=10) (dp:=14) 4 rfl (fun g10=>by
    have g10':=g10;try simp only [nH] at g10'
    refine sv ?_;exact zs g10
  ) (fun g10=>by
    have g10':=g10;try simp only [nH] at g10'
    iterate 3 refine Ab7 rfl rfl rfl ?_
    refine sv ?_;exact zs g10
  ) ?_
  refine su ?_;exact Aa4 (.r1 rfl (.tmp rfl)) (by first | rfl | simp)
theorem AD1 (s:Sp) (lo hi:Int) (W:World):Calls Tryz.prog 99 #[.agg #[.int .i64 s.lo,.int .i64 s.hi],.int .i64 lo,.int .i64 hi] W (Pure (.bool (isSpan s lo hi)) W):=by
  refine Aa0 Tryz.func99 rfl rfl ?_;refine st ?_;refine zn (New.box rfl) (fun b3=>?_)
  refine Ab3 (dj:=11) (dp:=17) 6 rfl (fun g11=>by
    have g11':=g11;try simp only [nH] at g11'
    refine lv (Val.fieldAddr rfl Az4) ?_;refine lv (Ab6 rfl (.head _) Ag2 rfl) ?_;refine lv (Val.fieldAddr rfl An2) ?_;refine Ac9 (Ab6 rfl (.head _) Ag2 rfl) rfl rfl rfl ?_;refine sv ?_;exact zs g11
  ) (fun g11=>by
    have g11':=g11;try simp only [nH] at g11'
    iterate 5 refine Ab7 rfl rfl rfl ?_
    refine sv ?_;exact zs g11
  ) ?_
  refine st ?_
  refine Ab3 (dj:=18) (dp:=23) 5 rfl (fun g18=>by
    have g18':=g18;try simp only [nH] at g18'
    refine lv (Val.fieldAddr rfl An2) ?_;refine Ac9 (Ab6 rfl (.head _) Ag2 rfl) rfl rfl rfl ?_;refine sv ?_;exact zs g18
  ) (fun g18=>by
    have g18':=g18;try simp only [nH] at g18'
    iterate 4 refine Ab7 rfl rfl rfl ?_
    refine sv ?_;exact zs g18
  ) ?_
  refine su ?_;exact Aa4 (.r1 rfl (.tmp rfl)) (by first | rfl | simp)
theorem AR7 (x y:Sp) (W:World):Calls Tryz.prog 97 #[.agg #[.int .i64 x.lo,.int .i64 x.hi,.int .i64 y.lo,.int .i64 y.hi]] W (Pure (.bool (isPlace x y)) W):=by
  refine Aa0 Tryz.func97 rfl rfl ?_;refine st ?_;refine zn (New.box rfl) (fun b1=>?_)
  refine zc (zF rfl BT0) (fun w hm=>AD1 ⟨_,_⟩ _ _ w) ?_
  refine Ab3 (dj:=6) (dp:=10) 4 rfl (fun g6=>by
    have g6':=g6;try simp only [nH] at g6'
    refine su ?_;refine Ab8 (zF rfl BT0) rfl rfl rfl (fun w hm=>AD1 ⟨_,_⟩ _ _ w) ?_;refine sv ?_;exact zs g6
  ) (fun g6=>by
    have g6':=g6;try simp only [nH] at g6'
    iterate 3 refine Ab7 rfl rfl rfl ?_
    refine sv ?_;exact zs g6
  ) ?_
  refine su ?_;exact Aa4 (.r1 rfl (.tmp rfl)) (by first | rfl | simp)
theorem BH1 (p:Pr) (q:Option Addr) (b o cap:Nat) (W:World) (hS:Sl W q b o 9 (p.things.map Th.cells)) (hl:p.things.length≤100000000000) :
    Calls Tryz.prog 47 #[p.v q cap] W (Pure (.bool (isPair p)) W):=by
  refine Aa0 Tryz.func47 rfl rfl ?_;refine st ?_;refine zn (New.box rfl) (fun b1=>?_)
  refine Ae6 (p.things.length) (fun k q=>(3,.int .i64 (k:Int))::q) (fun _=>_) (fun _=>[]) (fun k=>(p.things.take k).any (bad p)=false) (by simp) rfl (zE 3 rfl rfl (zS 1 rfl (Sub.nil _))) (.cons .here rfl .nil) ?_;intro k kN kI;refine su ?_;refine cn rfl ?_ ?_
  ·intro c0'
   have hk:k < p.things.length:=by omega
   obtain ⟨t,ht⟩:∃ t,p.things[k]=t:=⟨_,rfl⟩;refine su ?_;refine lv (Aa7 rfl rfl AF0 (by omega) (by omega) (hS.ptrM hk)) ?_;refine lv (Aa9 rfl (fun w hm=>hS.loadX (by decide) hm (by simp) AA9 hk ht)) ?_;refine zn (New.alloc Aw7) (fun b4=>?_)
   refine Ab0 (Sto.store rfl rfl .here AA9 rfl rfl) rfl rfl ?_;refine su ?_;refine zc (zF rfl CT6) (fun w hm=>AR7 ⟨_,_⟩ ⟨_,_⟩ w) ?_
   refine Ad6 (dj:=21) (dp:=26) 5 rfl (fun g21=>by
     have g21':=g21;try simp only [nH] at g21'
     refine su ?_;refine Ab8 (zF rfl CT6) rfl rfl rfl (fun w hm=>AR7 ⟨_,_⟩ ⟨_,_⟩ w) ?_;refine sv ?_;exact zs g21
   ) (fun g21=>by
     have g21':=g21;try simp only [nH] at g21'
     iterate 4 refine Ab7 rfl rfl rfl ?_
     refine sv ?_;exact zs g21
   ) ?_
   refine st ?_
   refine Ad6 (dj:=27) (dp:=41) 14 rfl (fun g27=>by
     have g27':=g27;try simp only [nH] at g27'
     refine su ?_
     refine Ab3 (dj:=31) (dp:=40) 9 rfl (fun g31=>by
       have g31':=g31;try simp only [nH] at g31'
       refine su ?_;refine Ab8 (zF rfl BT1) rfl rfl rfl (fun w hm=>AN0 _ _ _ w) ?_;refine sv ?_;exact zs g31
     ) (fun g31=>by
       have g31':=g31;try simp only [nH] at g31'
       iterate 8 refine Ab7 rfl rfl rfl ?_
       refine sv ?_;exact zs g31
     ) ?_
     refine sv ?_;exact zs g27
   ) (fun g27=>by
     have g27':=g27;try simp only [nH] at g27'
     iterate 13 refine Ab7 rfl rfl rfl ?_
     refine sv ?_;exact zs g27
   ) ?_
   refine st ?_;refine cn rfl ?_ ?_
   ·intro c1'
    refine su ?_;exact Aa4 (.r1 rfl (.tmp rfl)) (by have h:=CB0 (f:=bad p) hk (by rw [ht];simpa [bad] using c1');simp [isPair,h])
   intro c1';refine st ?_;refine lv (Val.add rfl rfl (IntWalk.i64_in _ ⟨by omega,by omega⟩)) ?_;exact Ad2 (by omega) (Az6 hk kI (by rw [ht];obtain ⟨⟨h1,h2⟩,h3⟩:=c1';simp only [bad,Bool.or_eq_false_iff,Bool.not_eq_false',Bool.and_eq_false_iff,decide_eq_true_eq];exact ⟨⟨h1,h2⟩,h3⟩)) rfl (zE 3 rfl rfl (zS 1 rfl (Sub.nil _))) (.cons (.there .here) rfl .nil)
  intro c0';obtain rfl:k=p.things.length:=by omega
  rw [List.take_length] at kI;refine RunC.exit ?_;refine su ?_;refine Ab1 ?_;refine su ?_
  refine Ab3 (dj:=46) (dp:=50) 4 rfl (fun g46=>by
    have g46':=g46;try simp only [nH] at g46'
    refine su ?_;refine Ab8 (zF rfl BT0) rfl rfl rfl (fun w hm=>AD1 ⟨_,_⟩ _ _ w) ?_;refine sv ?_;exact zs g46
  ) (fun g46=>by
    have g46':=g46;try simp only [nH] at g46'
    iterate 3 refine Ab7 rfl rfl rfl ?_
    refine sv ?_;exact zs g46
  ) ?_
  refine st ?_
  refine Ab3 (dj:=51) (dp:=55) 4 rfl (fun g51=>by
    have g51':=g51;try simp only [nH] at g51'
    refine su ?_;refine Ab8 (zF rfl BT0) rfl rfl rfl (fun w hm=>AD1 ⟨_,_⟩ _ _ w) ?_;refine sv ?_;exact zs g51
  ) (fun g51=>by
    have g51':=g51;try simp only [nH] at g51'
    iterate 3 refine Ab7 rfl rfl rfl ?_
    refine sv ?_;exact zs g51
  ) ?_
  refine st ?_
  refine Ab3 (dj:=56) (dp:=60) 4 rfl (fun g56=>by
    have g56':=g56;try simp only [nH] at g56'
    refine su ?_;refine Ab8 (zF rfl BT1) rfl rfl rfl (fun w hm=>AN0 _ _ _ w) ?_;refine sv ?_;exact zs g56
  ) (fun g56=>by
    have g56':=g56;try simp only [nH] at g56'
    iterate 3 refine Ab7 rfl rfl rfl ?_
    refine sv ?_;exact zs g56
  ) ?_
  refine st ?_
  refine Ab3 (dj:=61) (dp:=65) 4 rfl (fun g61=>by
    have g61':=g61;try simp only [nH] at g61'
    refine su ?_;refine Ab8 (zF rfl BT1) rfl rfl rfl (fun w hm=>AN0 _ _ _ w) ?_;refine sv ?_;exact zs g61
  ) (fun g61=>by
    have g61':=g61;try simp only [nH] at g61'
    iterate 3 refine Ab7 rfl rfl rfl ?_
    refine sv ?_;exact zs g61
  ) ?_
  refine st ?_
  refine Ab3 (dj:=66) (dp:=72) 6 rfl (fun g66=>by
    have g66':=g66;try simp only [nH] at g66'
    refine su ?_;refine Ab8 (zF rfl BT1) rfl rfl rfl (fun w hm=>AN0 _ _ _ w) ?_;refine sv ?_;exact zs g66
  ) (fun g66=>by
    have g66':=g66;try simp only [nH] at g66'
    iterate 5 refine Ab7 rfl rfl rfl ?_
    refine sv ?_;exact zs g66
  ) ?_
  refine su ?_;exact Aa4 (.r1 rfl (.tmp rfl)) (by simp only [isPair,kI,Bool.not_false,Bool.and_true];congr 1;cases isSpan p.focal 1 50000 <;> cases isSpan p.base 1 10000 <;> cases within p.tilt 0 1000 <;> cases within p.near 2000 1073741824 <;> cases within p.far p.near 1073741824 <;> simp)
end Go.Proofs.YtnmkdiagbkkmaabGreatDoor
namespace Go.Pw1
open Go Go.Eng
end Go.Pw1
namespace Go.Proofs.YtnmkdiagbkkmaabGreatDoor
open Go Go.Eng Go.Pw1

theorem Ar3 (n lo hi:Int) (W:World):Calls Tryz.prog 46 #[.int .i64 n,.int .i64 lo,.int .i64 hi] W (Pure (.bool (within n lo hi)) W):=by
  refine Aa0 Tryz.func46 rfl rfl ?_;refine st ?_
  refine Ab3 (dj:=10) (dp:=14) 4 rfl (fun g10=>by
    have g10':=g10;try simp only [nH] at g10'
    refine sv ?_;exact zs g10
  ) (fun g10=>by
    have g10':=g10;try simp only [nH] at g10'
    iterate 3 refine Ab7 rfl rfl rfl ?_
    refine sv ?_;exact zs g10
  ) ?_
  refine su ?_;exact Aa4 (.r1 rfl (.tmp rfl)) (by first | rfl | simp)
theorem Bx6 (c:Cd) (q:Option Addr) (b o cap:Nat) (W:World) (hS:Sl W q b o 9 (c.p.things.map Th.cells)) (hl:c.p.things.length≤100000000000) :
    Calls Tryz.prog 19 #[c.v q cap] W (Pure (.bool (cardR c)) W):=by
  refine Aa0 Tryz.func19 rfl rfl ?_;refine st ?_;refine zn (New.box rfl) (fun b1=>?_)
  refine zc (zF rfl Bb9) (fun w hm=>Ar3 _ _ _ w) ?_
  refine Ab3 (dj:=7) (dp:=11) 4 rfl (fun g7=>by
    have g7':=g7;try simp only [nH] at g7'
    refine su ?_;refine Ab8 (zF rfl Bb9) rfl rfl rfl (fun w hm=>Ar3 _ _ _ w) ?_;refine sv ?_;exact zs g7
  ) (fun g7=>by
    have g7':=g7;try simp only [nH] at g7'
    iterate 3 refine Ab7 rfl rfl rfl ?_
    refine sv ?_;exact zs g7
  ) ?_
  refine st ?_
  refine Ab3 (dj:=12) (dp:=16) 4 rfl (fun g12=>by
    have g12':=g12;try simp only [nH] at g12'
    refine su ?_;refine Ab8 (zF rfl Bb9) rfl rfl rfl (fun w hm=>Ar3 _ _ _ w) ?_;refine sv ?_;exact zs g12
  ) (fun g12=>by
    have g12':=g12;try simp only [nH] at g12'
    iterate 3 refine Ab7 rfl rfl rfl ?_
    refine sv ?_;exact zs g12
  ) ?_
  refine st ?_
  refine Ab3 (dj:=17) (dp:=22) 5 rfl (fun g17=>by
    have g17':=g17;try simp only [nH] at g17'
    refine lv (Val.fieldAddr rfl Az3) ?_;refine lv (Val.fieldAddr rfl Az4) ?_;refine Ac9 (Ab6 rfl (.head _) Ag2 rfl) rfl rfl rfl ?_;refine sv ?_;exact zs g17
  ) (fun g17=>by
    have g17':=g17;try simp only [nH] at g17'
    iterate 4 refine Ab7 rfl rfl rfl ?_
    refine sv ?_;exact zs g17
  ) ?_
  refine st ?_
  refine Ab3 (dj:=23) (dp:=31) 8 rfl (fun g23=>by
    have g23':=g23;try simp only [nH] at g23'
    refine lv (Val.fieldAddr rfl Az3) ?_;refine lv (Val.fieldAddr rfl Az4) ?_;refine lv (Ab6 rfl (.head _) Ag2 rfl) ?_;refine lv (Val.fieldAddr rfl Az3) ?_;refine lv (Val.fieldAddr rfl An2) ?_;refine Ac9 (Ab6 rfl (.head _) Ag2 rfl) rfl rfl rfl ?_;refine sv ?_;exact zs g23
  ) (fun g23=>by
    have g23':=g23;try simp only [nH] at g23'
    iterate 7 refine Ab7 rfl rfl rfl ?_
    refine sv ?_;exact zs g23
  ) ?_
  refine st ?_
  refine Ab3 (dj:=32) (dp:=37) 5 rfl (fun g32=>by
    have g32':=g32;try simp only [nH] at g32'
    refine lv (Val.fieldAddr rfl Az3) ?_;refine lv (Val.fieldAddr rfl An2) ?_;refine Ac9 (Ab6 rfl (.head _) Ag2 rfl) rfl rfl rfl ?_;refine sv ?_;exact zs g32
  ) (fun g32=>by
    have g32':=g32;try simp only [nH] at g32'
    iterate 4 refine Ab7 rfl rfl rfl ?_
    refine sv ?_;exact zs g32
  ) ?_
  refine st ?_
  refine Ab3 (dj:=39) (dp:=43) 4 rfl (fun g39=>by
    have g39':=g39;try simp only [nH] at g39'
    refine su ?_;refine Ab8 (zF rfl Bb9) rfl rfl rfl (fun w hm=>Ar3 _ _ _ w) ?_;refine sv ?_;exact zs g39
  ) (fun g39=>by
    have g39':=g39;try simp only [nH] at g39'
    iterate 3 refine Ab7 rfl rfl rfl ?_
    refine sv ?_;exact zs g39
  ) ?_
  refine st ?_
  refine Ab3 (dj:=44) (dp:=48) 4 rfl (fun g44=>by
    have g44':=g44;try simp only [nH] at g44'
    refine su ?_;refine Ab8 (zF rfl Bb9) rfl rfl rfl (fun w hm=>Ar3 _ _ _ w) ?_;refine sv ?_;exact zs g44
  ) (fun g44=>by
    have g44':=g44;try simp only [nH] at g44'
    iterate 3 refine Ab7 rfl rfl rfl ?_
    refine sv ?_;exact zs g44
  ) ?_
  refine st ?_
  refine Ab3 (dj:=49) (dp:=53) 4 rfl (fun g49=>by
    have g49':=g49;try simp only [nH] at g49'
    refine su ?_;refine Ab8 (zF rfl Bb9) rfl rfl rfl (fun w hm=>Ar3 _ _ _ w) ?_;refine sv ?_;exact zs g49
  ) (fun g49=>by
    have g49':=g49;try simp only [nH] at g49'
    iterate 3 refine Ab7 rfl rfl rfl ?_
    refine sv ?_;exact zs g49
  ) ?_
  refine st ?_
  refine Ab3 (dj:=54) (dp:=58) 4 rfl (fun g54=>by
    have g54':=g54;try simp only [nH] at g54'
    refine su ?_;refine Ab8 (zF rfl Bb9) rfl rfl rfl (fun w hm=>Ar3 _ _ _ w) ?_;refine sv ?_;exact zs g54
  ) (fun g54=>by
    have g54':=g54;try simp only [nH] at g54'
    iterate 3 refine Ab7 rfl rfl rfl ?_
    refine sv ?_;exact zs g54
  ) ?_
  refine st ?_
  refine Ab3 (dj:=59) (dp:=63) 4 rfl (fun g59=>by
    have g59':=g59;try simp only [nH] at g59'
    refine su ?_;refine Ab8 (zF rfl Dq3) rfl rfl rfl (fun w hm=>BH1 c.p q b o cap w (hS.mono (by decide) hm (by simp)) hl) ?_;refine sv ?_;exact zs g59
  ) (fun g59=>by
    have g59':=g59;try simp only [nH] at g59'
    iterate 3 refine Ab7 rfl rfl rfl ?_
    refine sv ?_;exact zs g59
  ) ?_
  refine su ?_;exact Aa4 (.r1 rfl (.tmp rfl)) (by simp [cardR,Bool.and_assoc])
end Go.Proofs.YtnmkdiagbkkmaabGreatDoor
namespace Go.Proofs.YtnmkdiagbkkmaabGreatDoor
open Go Go.Eng
theorem Dr3:Enters Tryz.prog 19:=Aa1 Tryz.func19 (by kernel_rfl) rfl
end Go.Proofs.YtnmkdiagbkkmaabGreatDoor
namespace Go.Dk
open Go Go.Eng Go.RowKit Go.Pw1 Go.Hp
def farL (c:Cd) (l:List Str):Bool:=decide (40 < c.p.things.length) || decide (60 < l.length) || l.any fun s=>decide (400 < s.length)
def heavyC (c:Cd):Bool:=decide (20 < c.cuts) && cardR c
theorem BJ8 {c:Cd} {l:List Str} (h:farL c l=false):c.p.things.length≤40∧l.length≤60∧∀ s∈l,s.length≤400:=by
  unfold farL at h;simp only [Bool.or_eq_false_iff,decide_eq_false_iff_not,List.any_eq_false,decide_eq_true_eq] at h;exact ⟨by omega,by omega,fun s hs=>by have:=h.2 s hs;omega⟩
theorem Dn3 {c:Cd} {l:List Str} (h:40 < (c.p.things.length:Int)∨60 < (l.length:Int)):farL c l=true:=by
  unfold farL
  rcases h with h | h
  · rw [decide_eq_true (show 40 < c.p.things.length by omega)];rfl
  · rw [decide_eq_true (show 60 < l.length by omega),Bool.or_true];rfl
theorem Dn2 {c:Cd} {l:List Str} {v:Str} (hv:v∈l) (h:400 < (v.length:Int)):farL c l=true:=by
  unfold farL;rw [show (l.any fun s=>decide (400 < s.length))=true from List.any_eq_true.2 ⟨v,hv,decide_eq_true (by omega)⟩,Bool.or_true]
theorem Dn1 {c:Cd} {l:List Str} (h:(c.p.things.length:Int)≤40∧(l.length:Int)≤60) (hl:∀ s∈l,s.length≤400):farL c l=false:=by
  unfold farL;rw [decide_eq_false (show ¬ 40 < c.p.things.length by omega),decide_eq_false (show ¬ 60 < l.length by omega),show (l.any fun s=>decide (400 < s.length))=false from List.any_eq_false.2 fun s hs=>by have:=hl s hs;simp;omega];rfl
end Go.Dk
namespace Go.Proofs.YtnmkdiagbkkmaabGreatDoor
open Go Go.Eng Go.Dk Go.RowKit Go.Pw1 Go.Hp

theorem AJ0 (c:Cd) (q:Option Addr) (cap:Nat) (l:List Str) (ql:Option Addr) (bl ol cl:Nat) (W:World) (hls:Sl W ql bl ol 1 (l.map strC)) :
    Calls Tryz.prog 7 #[c.v q cap,.slice ql l.length cl] W (Pure (.bool (farL c l)) W):=by
  refine Aa0 Tryz.func7 rfl rfl ?_;refine st ?_;refine zn (New.box rfl) (fun b2=>?_)
  refine Ad6 (dj:=11) (dp:=15) 4 rfl (fun g11=>by
    have g11':=g11;try simp only [nH] at g11'
    refine st ?_;refine Ac9 (Al5 rfl Au0) rfl rfl rfl ?_;refine sv ?_;exact zs g11
  ) (fun g11=>by
    have g11':=g11;try simp only [nH] at g11'
    iterate 3 refine Ab7 rfl rfl rfl ?_
    refine sv ?_;exact zs g11
  ) ?_
  refine st ?_;refine cn rfl ?_ ?_
  ·intro c0'
   refine su ?_;exact Aa4 (.r1 rfl (.tmp rfl)) (by rw [Dn3 c0'])
  intro c0';refine st ?_;refine Ae6 (l.length) (fun k q=>(5,.int .i64 (k:Int))::q) (fun _=>_) (fun _=>[]) (fun k=>∀ s∈l.take k,s.length≤400) (by simp) rfl (zE 5 rfl rfl (zS 1 rfl (Sub.nil _))) .nil ?_;intro k kN kI;refine su ?_;refine cn rfl ?_ ?_
  ·intro c1'
   have hk:k < l.length:=by omega
   obtain ⟨v,hv⟩:∃ v,l[k]=v:=⟨_,rfl⟩;refine st ?_;refine lv (Aa7 rfl rfl Au0 (by omega) (by omega) (hls.ptrM (i:=k) hk)) ?_;refine lv (Aa9 rfl (fun w hm=>Sl.loadM1 hls (by decide) hm (by simp) AF3 hk (v:=.string (bs v)) (by simp [strC,hv]))) ?_;refine lv (Ah1 rfl Ao6) ?_;refine cn rfl ?_ ?_
   ·intro c2'
    refine su ?_;exact Aa4 (.r1 rfl (.tmp rfl)) (by rw [Dn2 (hv ▸ List.getElem_mem hk) c2'])
   intro c2';refine st ?_;refine lv (Val.add rfl rfl (IntWalk.i64_in _ ⟨by omega,by omega⟩)) ?_;exact Ad2 (by omega) (fun s hs=>by rw [List.take_succ_eq_append_getElem hk,hv] at hs;rcases List.mem_append.1 hs with hs | hs;exact kI s hs;rw [List.mem_singleton] at hs;subst hs;omega) rfl (zE 5 rfl rfl (zS 1 rfl (Sub.nil _))) .nil
  intro c1';have hk:k=l.length:=by omega
  rw [hk,List.take_length] at kI;refine RunC.exit ?_;refine su ?_;refine Ab1 ?_;refine su ?_;exact Aa4 (.r1 rfl (.tmp rfl)) (by rw [Dn1 c0' kI])
theorem AG6 (c:Cd) (q:Option Addr) (b o cap:Nat) (W:World) (hS:Sl W q b o 9 (c.p.things.map Th.cells)) (hl:c.p.things.length≤100000000000) :
    Calls Tryz.prog 8 #[c.v q cap] W (Pure (.bool (heavyC c)) W):=by
  refine Aa0 Tryz.func8 rfl rfl ?_;refine st ?_;refine zn (New.box rfl) (fun b1=>?_)
  refine Ab3 (dj:=6) (dp:=9) 3 rfl (fun g6=>by
    have g6':=g6;try simp only [nH] at g6'
    refine su ?_;refine Ab8 (zF rfl Dr3) rfl rfl rfl (fun w hm=>Bx6 c q b o cap w (hS.mono (by decide) hm (by simp)) hl) ?_;refine sv ?_;exact zs g6
  ) (fun g6=>by
    have g6':=g6;try simp only [nH] at g6'
    refine Ab7 rfl rfl rfl ?_;refine Ab7 rfl rfl rfl ?_;refine sv ?_;exact zs g6
  ) ?_
  refine su ?_;exact Aa4 (.r1 rfl (.tmp rfl)) (by first | rfl | simp)
end Go.Proofs.YtnmkdiagbkkmaabGreatDoor
namespace Go.Dk
open Go Go.Eng Go.RowKit Go.Pw1 Go.Hp
structure BenA (W:World) (d:DkX):Prop where
  v:Sl W (ownQ d.v) (ownK d.v) 0 13 (d.vs.map VwX.cellsS)
  t:∀ x∈d.vs,Sl W (ownQ x.t) (ownK x.t) 0 9 (x.p.things.map Th.cells)
  m:MOk W d.mx
  sm:MSm d.mx
end Go.Dk
namespace Go.Proofs.YtnmkdiagbkkmaabGreatDoor
open Go Go.Eng Go.Dk Go.RowKit Go.Pw1 Go.Hp

theorem CA2 {W0 w:World} {d:DkX} {tl:Blks} (hd:DkOk d) (hm:Mem W0 [] (dkB d++tl) w):BenA w d:=by
  have hat:∀ b o,(b,o)∈dkB d→w.heap[b]? = some o:=fun b o hb=>(hm.newd b o (List.mem_append_left _ hb)).2
  have e1:d.vs.map VwX.cells=d.vs.map VwX.cellsS:=List.map_congr_left fun x hx=>VwX.cells_eq (hd.vs x hx)
  have e2:d.bs.map BoX.cells=(d.bs.map BoX.a).map BxA.cells:=by
    rw [List.map_map];exact List.map_congr_left fun x hx=>BoX.cells_eq (hd.bs x hx)
  refine ⟨?_,fun x hx=>?_,⟨?_,fun x hx=>?_,?_⟩,⟨?_,?_,fun x hx=>?_,fun t ht=>?_⟩⟩
  · rw [← e1]
    exact Ai5 (f:=VwX.cells) (e:=62) (fun _=>rfl) (by decide) hd.v (fun b o h=>hat b o (Dr9 h))
  · exact Ai5 (f:=Th.cells) (e:=66) (fun _=>rfl) (by decide) (hd.vs x hx) (fun b o h=>hat b o (Ds0 hx h))
  · show Sl w (ownQ d.b) (ownK d.b) 0 2 ((d.bs.map BoX.a).map BxA.cells)
    rw [← e2];exact Ai5 (f:=BoX.cells) (e:=68) (fun _=>rfl) (by decide) hd.b (fun b o h=>hat b o (Ds2 h))
  · obtain ⟨y,hy,rfl⟩:=List.mem_map.1 hx
    have h1:=hd.bs y hy;rw [Ap5] at h1;exact Ai5 (f:=strC) (e:=9) (fun _=>rfl) (by decide) h1 (fun b o h=>hat b o (CV2 hy (by rw [boB,Ap5];exact h)))
  · exact Ai5 (f:=Tn.cells) (e:=70) (fun _=>rfl) (by decide) hd.c (fun b o h=>hat b o (Ds1 h))
  · show (d.bs.map BoX.a).length≤1000
    rw [List.length_map]
    have:=hd.few
    omega
  · have:=hd.few
    show d.cs.length≤1000
    omega
  · obtain ⟨y,hy,rfl⟩:=List.mem_map.1 hx
    exact ⟨(hd.ti y hy).1,(hd.ti y hy).2⟩
  · exact hd.tx t ht
end Go.Proofs.YtnmkdiagbkkmaabGreatDoor
namespace Go.Proofs.YtnmkdiagbkkmaabGreatDoor
open Go Go.Eng
theorem Dt4:tyB Tryz.prog 62=some (true,13):=by kernel_rfl
instance:Tyc Tryz.prog 62 true 13:=⟨Dt4⟩
end Go.Proofs.YtnmkdiagbkkmaabGreatDoor
namespace Go.Dk
open Go Go.Eng Go.RowKit Go.Pw1 Go.Hp
theorem BenA.b {W:World} {d:DkX} (h:BenA W d):Sl W (ownQ d.b) (ownK d.b) 0 2 (d.bs.map BoX.cellsS):=by
  have h:=h.m.bx;unfold DkX.mx at h;dsimp only at h;rw [List.map_map] at h;exact h
theorem BenA.c {W:World} {d:DkX} (h:BenA W d):Sl W (ownQ d.c) (ownK d.c) 0 3 (d.cs.map Tn.cells):=h.m.cd
end Go.Dk
namespace Go.Proofs.YtnmkdiagbkkmaabGreatDoor
open Go Go.Eng Go.Dk Go.RowKit Go.Pw1 Go.Hp

end Go.Proofs.YtnmkdiagbkkmaabGreatDoor
namespace Go.Dk
open Go Go.Eng Go.RowKit Go.Pw1 Go.Hp
def firstW (s:Str):Str:=(blanks s []).getD 0 []
theorem Cv0 (s:Str):(Lib.cut s [32]).1=firstW s:=by
  unfold Lib.cut firstW;rw [Lib.index_one];have hge:=Lib.indexByte_ge s 32
  by_cases h:Lib.indexByte s 32 < 0
  · rw [if_neg (by omega),AM2 h]
    rfl
  · obtain ⟨i,hi⟩:∃ i:Nat,Lib.indexByte s 32=i:=⟨(Lib.indexByte s 32).toNat,by omega⟩
    rw [if_pos (by omega),(AR0 hi).2,hi];rfl
def playX (c:Cd):Bn→List Str→Bn×List Str
  | b,[]=>(b,[])
  | b,s::l=>((playX c (stepX c b s).1 l).1,echoX (stepX c b s).2.1 (stepX c b s).2.2::(playX c (stepX c b s).1 l).2)
theorem BQ8 (c:Cd):∀ (l:List Str) (b:Bn),(playX c b l).2.length=l.length
  | [],_=>rfl
  | s::l,b=>by simp only [playX,List.length_cons];rw [BQ8 c l]
end Go.Dk
namespace Go.Proofs.YtnmkdiagbkkmaabGreatDoor
open Go Go.Eng Go.Dk Go.RowKit Go.Pw1 Go.Hp

theorem Cp8 (w:World):∀ n,Mem w [] [] (w.drewN n):=fun k=>⟨rfl,rfl,rfl,Nat.le_refl _,fun _ _ _=>rfl,fun _ _ h=>(by cases h),fun _ _ h=>(by cases h),by simp⟩
theorem Cb5 (s:Str) (hs:s.length≤100000) (W:World) (hL:Lw Tryz.prog W):Calls Tryz.prog 14 #[.string (bs s),.string (bs [32])] W (Pure (.tuple #[.string (bs (Lib.cut s [32]).1),.string (bs (Lib.cut s [32]).2.1),.bool (Lib.cut s [32]).2.2]) W):=by
  obtain ⟨m,hm⟩:=hL.mx;refine Af4 (Tryz.strings_Cut (bs s) (bs [32]) m W (by show s.length < 4294967281;omega) hm) ?_
  rintro e w' ⟨rfl,n,rfl⟩
  exact ⟨rfl,Cp8 W n⟩
end Go.Proofs.YtnmkdiagbkkmaabGreatDoor
namespace Go.Dk
open Go Go.Eng Go.Pw1 Go.Hp
theorem BS0 {c:Cd} {b b':Bn} {s r:Str} {v:Vb} (hv:verbX (firstW s)=some v) (h1:firstW s ≠ wBox) (h2:firstW s ≠ wCard) (e:lineX c b s = .ok (b',r)) :
    ∃ ns,numsX ((blanks s []).drop 1)=some ns∧ns.length=v.many∧(v.about=true→N ns 0 < b.views.length)∧v.does c b ns = .ok (b',r):=by
  unfold lineX at e
  split at e
  · cases e
  · split at e
    · cases e
    · rename_i w hw
      obtain ⟨rfl,-⟩:=Ax0 hw;have hf:(blanks s []).getD 0 []=firstW s:=rfl;rw [hf,if_neg h1,if_neg h2,hv] at e;dsimp only at e
      split at e
      · cases e
      · rename_i ns hn
        split at e
        · cases e
        · rename_i hm
          split at e
          · cases e
          · rename_i hr
            exact ⟨ns,hn,Classical.not_not.1 hm,fun ha=>Classical.byContradiction fun h=>hr ⟨ha,h⟩,e⟩
variable {c:Cd} {b b':Bn} {i:Nat} {r:Str}
def atoiL:List Str→Option (List Int)
  | []=>some []
  | s::l=>match Lib.atoiAll s,atoiL l with
    | .ok n,some r=>some (n::r)
    | _,_=>none
def numL (s:Str):List Int:=(atoiL ((blanks s []).drop 1)).getD []
theorem CJ7 {s:Str} {n:Int} (h:numX s=some n):Lib.atoiAll s = .ok n:=by
  unfold numX at h
  split at h
  · rename_i m hm
    split at h
    · cases h;exact hm
    · cases h
  · cases h
theorem Bx3:∀ {l:List Str} {ns:List Int},numsX l=some ns→atoiL l=some ns
  | [],ns,h=>h
  | s::l,ns,h=>by
    unfold numsX at h
    split at h
    · rename_i n r hn hr
      cases h
      unfold atoiL;rw [CJ7 hn,Bx3 hr]
    · cases h
end Go.Dk
namespace Go.Dk
open Go Go.Eng Go.Pw1 Go.Hp
def Ne0 (a:Ans):Prop:=∀ k,a = .error k→k ≠ 0
variable {c:Cd} {b:Bn}
theorem CF0:Ne0 (viewD c b):=by
  intro k hk;unfold viewD at hk
  repeat' split at hk
  all_goals cases hk
  all_goals first | decide | assumption
theorem Cj6 {i:Nat} {x1 x2 y1 y2:Int}:Ne0 (thingD b i x1 x2 y1 y2):=by
  intro k hk;unfold thingD at hk;dsimp only at hk
  repeat' split at hk
  all_goals cases hk
  all_goals first | decide | assumption
theorem CL1 {i j:Nat} {far:Int}:Ne0 (markD b i j far):=by
  intro k hk;unfold markD at hk;dsimp only at hk
  repeat' split at hk
  all_goals cases hk
  all_goals first | decide | assumption
theorem Db1 {i j:Nat}:Ne0 (farD b i j):=by
  intro k hk;unfold farD at hk;dsimp only at hk
  repeat' split at hk
  all_goals cases hk
  all_goals first | decide | assumption
theorem Cp6 {i:Nat}:Ne0 (movedD b i):=by
  intro k hk;unfold movedD at hk;dsimp only at hk
  repeat' split at hk
  all_goals cases hk
  all_goals first | decide | assumption
theorem Cs2 {i:Nat} {t:Tr}:Ne0 (hurtsD c b i t):=by
  intro k hk;unfold hurtsD at hk;dsimp only at hk
  repeat' split at hk
  all_goals cases hk
  all_goals first | decide | assumption
theorem CF9 {i:Nat}:Ne0 (trimD c b i):=by
  intro k hk;unfold trimD at hk;dsimp only at hk
  repeat' split at hk
  all_goals cases hk
  all_goals first | decide | assumption
theorem CQ0 {i:Nat}:Ne0 (deepD c b i):=by
  intro k hk;unfold deepD at hk;dsimp only at hk
  repeat' split at hk
  all_goals cases hk
  all_goals first | decide | assumption
theorem CZ9 {i:Nat}:Ne0 (offD b i):=by
  intro k hk;unfold offD at hk;dsimp only at hk
  repeat' split at hk
  all_goals cases hk
  all_goals first | decide | assumption
theorem CE6:Ne0 (waysD b):=by
  intro k hk;unfold waysD at hk
  repeat' split at hk
  all_goals cases hk
  all_goals first | decide | assumption
theorem Cg2 {j:Nat}:Ne0 (whichD b j):=by
  intro k hk;unfold whichD at hk;dsimp only at hk
  repeat' split at hk
  all_goals cases hk
  all_goals first | decide | assumption
theorem Dh9 {w:List Str}:Ne0 (boxD b w):=by
  intro k hk;unfold boxD at hk;dsimp only at hk
  repeat' split at hk
  all_goals cases hk
  all_goals first | decide | assumption
theorem CQ5 {w:List Str}:Ne0 (cardD b w):=by
  intro k hk;unfold cardD at hk;dsimp only at hk
  repeat' split at hk
  all_goals cases hk
  all_goals first | decide | assumption
theorem CP6 {x:Str} {v:Vb} (hv:verbX x=some v) {n:List Int}:Ne0 (v.does c b n):=by
  obtain ⟨k,hk⟩:=AX6 hv;simp only [verbsX,List.mem_cons,Prod.mk.injEq,List.not_mem_nil,or_false] at hk
  rcases hk with ⟨-,rfl⟩ | ⟨-,rfl⟩ | ⟨-,rfl⟩ | ⟨-,rfl⟩ | ⟨-,rfl⟩ | ⟨-,rfl⟩ | ⟨-,rfl⟩ | ⟨-,rfl⟩ | ⟨-,rfl⟩ | ⟨-,rfl⟩ | ⟨-,rfl⟩
  · exact CF0
  · exact Cj6
  · exact CL1
  · exact Db1
  · exact Cp6
  · exact Cs2
  · exact CF9
  · exact CQ0
  · exact CZ9
  · exact CE6
  · exact Cg2
theorem CL6 {s:Str}:Ne0 (lineX c b s):=by
  intro k hk;unfold lineX at hk
  split at hk
  · cases hk;decide
  · split at hk
    · cases hk;decide
    · split at hk
      · exact Dh9 k hk
      · split at hk
        · exact CQ5 k hk
        · split at hk
          · cases hk;decide
          · rename_i hv
            split at hk
            · cases hk;decide
            · split at hk
              · cases hk;decide
              · split at hk
                · cases hk;decide
                · exact CP6 hv k hk
theorem Cj8 {s r:Str} {b':Bn} {e:Int} (h:(b',r,e)=stepX c b s) (he:e=0):lineX c b s = .ok (b',r):=by
  subst he;unfold stepX at h
  cases hl:lineX c b s with
  | ok y =>
    rw [hl] at h;dsimp only at h
    injection h with h1 h2
    injection h2 with h2 h3
    rw [h1,h2]
  | error k =>
    rw [hl] at h;dsimp only at h
    injection h with h1 h2
    injection h2 with h2 h3
    exact absurd h3.symm (CL6 k hl)
theorem CA5 {s:Str} {n:Int} (hw:wordX s=true) (h:Lib.atoiAll s = .ok n):0≤n∧n≤9223372036854775807:=by
  unfold wordX at hw;simp only [Bool.and_eq_true] at hw
  cases s with
  | nil=>cases h
  | cons a r =>
    have ha:=List.all_eq_true.1 hw.2 a (by simp)
    have h45:¬ a.toNat=45:=fun e=>by
      unfold wordB at ha;rw [e] at ha;exact absurd ha (by decide)
    unfold Lib.atoiAll at h;dsimp only at h
    split at h
    · cases h
    · cases h
    · split at h
      · cases h
      · rename_i u hu hr
        rw [if_neg (fun e=>h45 e.1)] at h
        cases h
        have:¬ (9223372036854775808:Nat)≤u:=fun e=>hr ⟨h45,e⟩
        omega
theorem Bl2:∀ {l:List Str} {ns:List Int},(∀ w∈l,wordX w=true)→atoiL l=some ns→∀ n∈ns,0≤n∧n≤9223372036854775807
  | [],ns,_,h=>by cases h;intro n hn;cases hn
  | s::l,ns,hw,h=>by
    unfold atoiL at h
    split at h
    · rename_i m r hm hr
      cases h
      intro n hn
      rcases List.mem_cons.1 hn with rfl | hn
      · exact CA5 (hw s (by simp)) hm
      · exact Bl2 (fun w hx=>hw w (by simp [hx])) hr n hn
    · cases h
theorem Ca8 {s:Str} {y:Bn×Str} (h:lineX c b s = .ok y):∀ w∈blanks s [],wordX w=true:=by
  unfold lineX at h
  split at h
  · cases h
  · split at h
    · cases h
    · rename_i w hw
      obtain ⟨rfl,h2⟩:=Ax0 hw;exact h2
theorem Co9 {s:Str} {y:Bn×Str} (h:lineX c b s = .ok y):∀ n∈numL s,0≤n∧n≤9223372036854775807:=by
  intro n hn;unfold numL at hn
  cases e:atoiL ((blanks s []).drop 1) with
  | none=>rw [e] at hn;cases hn
  | some ns =>
    rw [e] at hn;exact Bl2 (fun w hw=>Ca8 h w (List.mem_of_mem_drop hw)) e n hn
theorem Co8 {s:Str} {ns:List Int} (h:numsX ((blanks s []).drop 1)=some ns):numL s=ns:=by
  unfold numL;rw [Bx3 h];rfl
end Go.Dk
namespace Go.Hp
open Go Go.Eng Go.Pw1 Go.Proofs.YtnmkdiagbkkmaabGreatDoor
theorem Bj0 {p:Nat→Bool}:∀ n,lastP p n = -1∨∃ k,k < n∧lastP p n=(k:Int)∧p k=true
  | 0=>.inl rfl
  | n + 1=>by
    unfold lastP
    cases h:p n with
    | true=>exact .inr ⟨n,by omega,rfl,h⟩
    | false =>
      simp only [Bool.false_eq_true,if_false]
      rcases Bj0 (p:=p) n with h1 | ⟨k,h1,h2,h3⟩
      · exact .inl h1
      · exact .inr ⟨k,by omega,h2,h3⟩
theorem Bj1 {p:Nat→Bool} {e:Nat} (he:p e=true):∀ {n:Nat},e < n→(∀ k,p k=true→k=e)→lastP p n=(e:Int)
  | 0,h,_=>by omega
  | n + 1,h,hu=>by
    unfold lastP
    by_cases hp:p n=true
    · rw [if_pos hp,hu n hp]
    · rw [if_neg hp]
      have:n ≠ e:=fun h2=>hp (h2 ▸ he)
      exact Bj1 he (by omega) hu
theorem CE8 {ne:Nat} {fs:List Nat} {f:Nat} {l:List Nat} (h:Way ne (fs++[f]) 0 l):Way ne fs 0 (l.take fs.length):=by
  have hll:=h.len;rw [List.length_append,List.length_singleton] at hll;have hlt:(l.take fs.length).length=fs.length:=by rw [List.length_take];omega
  refine ⟨hlt,fun k hk=>?_,fun x _=>by simp,(List.take_sublist _ l).nodup h.nd⟩
  have hk2:k < fs.length:=by omega
  have hkl:k < l.length:=by omega
  have h1:=h.fit k hkl;rw [List.getElem_take];refine ⟨h1.1,?_⟩
  have e:fs.getD k 0=(fs++[f]).getD k 0:=by
    rw [List.getD_eq_getElem?_getD,List.getD_eq_getElem?_getD,List.getElem?_append_left hk2]
  rw [e];exact h1.2
theorem Dh7 {ne:Nat} {fs:List Nat} (h:0 < cntL ne fs 0):∃ l,Way ne fs 0 l:=⟨_,BA9 h⟩
theorem BW9 {m:Mx} {t:Tn} (h':waysE { m with cards:=m.cards++[t] }=0) {i:Nat} (hi:i < m.cards.length) (hs:sureC m i ≠ -1):sureC { m with cards:=m.cards++[t] } i=sureC m i:=by
  have efs:fsX { m with cards:=m.cards++[t] }=fsX m++[fitsX m t]:=by
    unfold fsX;rw [List.map_append];rfl
  have hfl:(fsX m).length=m.cards.length:=by unfold fsX;rw [List.length_map]
  have ene:neX { m with cards:=m.cards++[t] }=neX m:=rfl
  have hc:0 < cntL (neX m) (fsX m++[fitsX m t]) 0:=by
    unfold waysE at h'
    split at h'
    · split at h'
      · cases h'
      · rename_i h0
        unfold cntX at h0;rw [efs,ene] at h0;omega
    · cases h'
  obtain ⟨l,hl⟩:=Dh7 hc
  have hsp:∀ e,sureP { m with cards:=m.cards++[t] } i e=true ↔ ∀ l,Way (neX m) (fsX m++[fitsX m t]) 0 l→l.getD i (neX m)=e:=by
    intro e;unfold sureP cntX;rw [decide_eq_true_eq,efs,ene];exact Bv2 (by rw [List.length_append,hfl];omega)
  rcases Bj0 (p:=sureP m i) (neX m) with h1 | ⟨k,h1,h2,h3⟩
  · exact absurd h1 hs
  · have h4:∀ l,Way (neX m) (fsX m) 0 l→l.getD i (neX m)=k:=by
      unfold sureP cntX at h3;exact (Bv2 (by omega)).1 (of_decide_eq_true h3)
    have h5:∀ l,Way (neX m) (fsX m++[fitsX m t]) 0 l→l.getD i (neX m)=k:=by
      intro l hl
      have:=h4 _ (CE8 hl)
      rw [List.getD_eq_getElem?_getD,List.getElem?_take,if_pos (by omega)] at this;rw [List.getD_eq_getElem?_getD];exact this
    show lastP (sureP { m with cards:=m.cards++[t] } i) (neX m)=lastP (sureP m i) (neX m)
    rw [h2];refine Bj1 ((hsp k).2 h5) h1 fun e he=>?_
    rw [← (hsp e).1 he l hl,h5 l hl]
end Go.Hp
namespace Go.Dk
open Go Go.Eng Go.Pw1 Go.Hp
variable {c:Cd} {b b':Bn} {r s:Str}
theorem Cb1 (h:firstW s=wBox) (e:lineX c b s = .ok (b',r)):boxD b ((blanks s []).drop 1) = .ok (b',r):=by
  unfold lineX at e
  split at e
  · cases e
  · split at e
    · cases e
    · rename_i w hw
      obtain ⟨rfl,-⟩:=Ax0 hw;have hf:(blanks s []).getD 0 []=firstW s:=rfl;rw [hf,if_pos h] at e;exact e
theorem Cb0 (h:firstW s=wCard) (e:lineX c b s = .ok (b',r)):cardD b ((blanks s []).drop 1) = .ok (b',r):=by
  unfold lineX at e
  split at e
  · cases e
  · split at e
    · cases e
    · rename_i w hw
      obtain ⟨rfl,-⟩:=Ax0 hw;have hf:(blanks s []).getD 0 []=firstW s:=rfl;rw [hf,if_neg (by rw [h];decide),if_pos h] at e;exact e
theorem CQ7 {w:List Str} (e:boxD b w = .ok (b',r)):r=sayX wBox [(b.heap.boxes.length:Int)]:=by
  unfold boxD at e
  split at e
  · cases e
  · split at e
    · cases e
    · split at e
      · cases e
      · dsimp only at e
        split at e
        · cases e;rfl
        · cases e
def newsTo (old now:List Int) (k:Nat):List (Nat×Int):=(List.range k).filterMap fun i=>if now.getD i 0 = -1∨(old++[-1]).getD i 0 ≠ -1 then none else some (i,now.getD i 0)
def toldTo (old now:List Int) (k:Nat):Str:=sayX wCard [(old.length:Int)]++((newsTo old now k).map fun x=>32::sayX wIs [(x.1:Int),x.2]).flatten
theorem CG5 {old now:List Int} {k:Nat} (h:¬ (now.getD k 0 = -1∨(old++[-1]).getD k 0 ≠ -1)):toldTo old now (k + 1)=toldTo old now k++32::sayX wIs [(k:Int),now.getD k 0]:=by
  unfold toldTo newsTo;rw [List.range_succ,List.filterMap_append];simp only [List.filterMap_cons,List.filterMap_nil,if_neg h,List.map_append,List.flatten_append,List.map_cons,List.map_nil,List.flatten_cons,List.flatten_nil,List.append_nil,List.append_assoc]
theorem CX5 {old now:List Int} {k:Nat} (h:now.getD k 0 = -1∨(old++[-1]).getD k 0 ≠ -1):toldTo old now (k + 1)=toldTo old now k:=by
  unfold toldTo newsTo;rw [List.range_succ,List.filterMap_append];simp only [List.filterMap_cons,List.filterMap_nil,if_pos h,List.append_nil]
theorem Cz5 {w:List Str} (hw:(WhyX b'.heap).2=0→waysE b'.heap=0) (e:cardD b w = .ok (b',r)):∃ t,b'.heap={ b.heap with cards:=b.heap.cards++[t] }∧waysE b'.heap=0∧(SureX b.heap).2=0∧r=toldTo (SureX b.heap).1 (SureX b'.heap).1 (SureX b'.heap).1.length:=by
  unfold cardD at e
  split at e
  · cases e
  · split at e
    · cases e
    · split at e
      · cases e
      · split at e
        · cases e
        · rename_i hs
          dsimp only at e
          split at e
          · cases e
          · rename_i hwy
            split at e
            · cases e
            · cases e
              have hs0:(SureX b.heap).2=0:=Classical.not_not.1 hs;refine ⟨_,rfl,hw (Classical.not_not.1 hwy),hs0,?_⟩
              have hl:(SureX b.heap).1.length=b.heap.cards.length:=by
                unfold SureX at hs0 ⊢
                split
                · simp
                · rename_i h;rw [if_neg h] at hs0;exact absurd hs0 h
              unfold toldTo;rw [hl];rfl
theorem Cg3 (e:waysD b = .ok (b',r)):b'=b∧r=sayX wWays [(CountX b.heap).1]:=by
  unfold waysD at e
  split at e
  · cases e;exact ⟨rfl,rfl⟩
  · cases e
theorem BV5 {k:Nat} (e:whichD b k = .ok (b',r)):b'=b∧k < b.heap.cards.length∧r=if (SureX b.heap).1.getD k 0 = -1 then wWhich++32::wDoubt else sayX wWhich [(SureX b.heap).1.getD k 0]:=by
  unfold whichD at e
  split at e
  · cases e
  · rename_i hk
    split at e
    · cases e
    · cases e
      exact ⟨rfl,Classical.not_not.1 hk,rfl⟩
theorem AV4 {m:Mx} (h:waysE m=0):(SureX m).1=(List.range m.cards.length).map (sureC m)∧(SureX m).2=0:=by
  unfold SureX;rw [if_pos h];exact ⟨rfl,rfl⟩
theorem BP9 {m:Mx} (h:waysE m=0) {k:Nat} (hk:k < m.cards.length):(SureX m).1.getD k 0=sureC m k:=by
  rw [(AV4 h).1,List.getD_eq_getElem?_getD,List.getElem?_map,List.getElem?_range hk];rfl
end Go.Dk
namespace Go.Dk
open Go Go.Eng Go.Pw1 Go.Hp
theorem CY1 {l:List Int} {j:Nat} (h:j≤l.length):(l++[-1]).getD j 0=if j < l.length then l.getD j 0 else -1:=by
  split
  · rename_i h1
    rw [List.getD_eq_getElem?_getD,List.getD_eq_getElem?_getD,List.getElem?_append_left h1]
  · have:j=l.length:=by omega
    subst this;simp
end Go.Dk
namespace Go.Eng
open Go Go.RowKit
end Go.Eng
namespace Go.Dk
open Go Go.Eng Go.RowKit Go.Pw1 Go.Hp
structure CutOk (c:Cd) (pre:List Str) (d:DkX) (ko ro:Eng.Own) (kl rl:List Str):Prop where
  dk:DkOk d
  o1:OwnOk 1 ko kl.length (kl.map strC).flatten
  o2:OwnOk 1 ro rl.length (rl.map strC).flatten
  pl:playX (bareC c) noBn kl=(d.pl,rl)
  n:kl.length≤pre.length
  s:∀ s∈kl,s∈pre
theorem CutOk.len {c:Cd} {pre:List Str} {d:DkX} {ko ro:Eng.Own} {kl rl:List Str} (h:CutOk c pre d ko ro kl rl):rl.length=kl.length:=by
  have:=BQ8 (bareC c) kl noBn
  rw [h.pl] at this;exact this
end Go.Dk
namespace Go.Proofs.YtnmkdiagbkkmaabGreatDoor
open Go Go.Eng Go.Dk Go.RowKit Go.Pw1 Go.Hp

end Go.Proofs.YtnmkdiagbkkmaabGreatDoor
namespace Go.Eng
open Go Go.RowKit
theorem BD6 {P:Program} {r:Regs} {W:World} {chg news:Blks} {dst:Option Tmp} {gd:Option (Nat×Bool)} {ty:TypeId} {pos:String} {after:Array Edge} {x:Operand} {T yt:TypeId} {ms:Array (String×TypeId)} {v:Value} {b:Bool} (hx:rev r x=some v) (hT:P.underlying T=some (.interface ms))
    (hv:(b=false∧v = .nilIface)∨(b=true∧∃ t u,v = .iface t u)):Val P r W chg news { dst,op:=.binOp .neq T x (.const .nilIface) yt,type:=ty,pos,after,guard:=gd } (.bool b):=by
  rcases hv with ⟨rfl,rfl⟩ | ⟨rfl,t,u,rfl⟩
  · exact Aq3 hx hT
  · exact An3 hx hT
end Go.Eng
namespace Go.Dk
open Go Go.Eng Go.RowKit Go.Pw1 Go.Hp
abbrev AtZ (s:Str):={z:Int×Value×Bool // (z.2.2=false∧z.2.1 = .nilIface∧Lib.atoiAll s = .ok z.1)∨(z.2.2=true∧(∃ t u,z.2.1 = .iface t u)∧∀ v,Lib.atoiAll s ≠ .ok v)}
theorem AtZ.err {s:Str} (z:AtZ s):(z.1.2.2=false∧z.1.2.1 = .nilIface)∨(z.1.2.2=true∧∃ t u,z.1.2.1 = .iface t u):=by
  rcases z.2 with ⟨h1,h2,-⟩ | ⟨h1,h2,-⟩
  · exact .inl ⟨h1,h2⟩
  · exact .inr ⟨h1,h2⟩
theorem Di4 {ws:List Str} {k:Nat} (hk:k < ws.length) {ns:List Int} (h:atoiL (ws.take k)=some ns) {s:Str} (hs:ws[k]=s) {n:Int} (hn:Lib.atoiAll s = .ok n):atoiL (ws.take (k + 1))=some (ns++[n]):=by
  have key:∀ (l:List Str) (ns:List Int),atoiL l=some ns→atoiL (l++[s])=some (ns++[n]):=by
    intro l
    induction l with
    | nil=>intro ns h;cases h;simp [atoiL,hn]
    | cons t l ih =>
      intro ns h;unfold atoiL at h
      split at h
      · rename_i m r hm hr
        cases h
        show atoiL (t::(l++[s]))=_
        unfold atoiL;rw [hm,ih r hr];rfl
      · cases h
  rw [List.take_succ_eq_append_getElem hk,hs];exact key _ _ h
theorem BU4 {s:Str} (hn:∀ v,Lib.atoiAll s ≠ .ok v):∀ {ws:List Str},s∈ws→atoiL ws=none
  | [],h=>by cases h
  | t::l,h=>by
    unfold atoiL
    split
    · rename_i m r hm hr
      rcases List.mem_cons.1 h with rfl | h
      · exact absurd hm (hn m)
      · rw [BU4 hn h] at hr;cases hr
    · rfl
end Go.Dk
namespace Go.Proofs.YtnmkdiagbkkmaabGreatDoor
open Go Go.Eng Go.Dk Go.RowKit Go.Pw1 Go.Hp

theorem BI7 (s:Str) (h:s.length≤281474976710656) (W:World) (hL:Lw Tryz.prog W):Calls Tryz.prog 45 #[.string (bs s)] W (News (fun z:AtZ s=>.tuple #[.int .i64 z.1.1,z.1.2.1]) (fun _=>[]++[]) W):=by
  by_cases hv:∃ v,Lib.atoiAll s = .ok v
  · obtain ⟨v,hv⟩:=hv
    refine Af4 (AO7 s h v hv W) ?_
    rintro e w' ⟨rfl,hm⟩
    exact ⟨⟨(v,.nilIface,false),.inl ⟨rfl,rfl,hv⟩⟩,rfl,hm⟩
  · have hv2:∀ v,Lib.atoiAll s ≠ .ok v:=fun v h=>hv ⟨v,h⟩
    refine Af4 (AO8 s h hv2 W hL) ?_
    rintro e w' ⟨z,rfl,hm⟩
    exact ⟨⟨(z.1,_,true),.inr ⟨rfl,⟨_,_,rfl⟩,hv2⟩⟩,rfl,hm⟩
theorem Bf4 (s:Str) (hs:s.length≤100000) (W:World) (hL:Lw Tryz.prog W) :
    Calls Tryz.prog 17 #[.string (bs s)] W (News (fun z:{z:Eng.Own×List Int // OwnOk 1 z.1 z.2.length (z.2.map intC).flatten∧z.2=numL s}=>ownV z.1.1 z.1.2.length) (fun z=>ownB 3 z.1.1 (z.1.2.map intC).flatten++[]) W):=by
  have hbk:=Av4 _ s (Nat.le_refl _);have hbo:=AC0 s []
  obtain ⟨x,ws,hxw⟩:∃ x ws,blanks s []=x::ws:=by
    cases hb:blanks s [] with
    | nil=>rw [hb] at hbo;exact absurd hbo.2.1 (by simp)
    | cons x ws=>exact ⟨x,ws,rfl⟩
  rw [hxw] at hbk hbo;have hwl:ws.length≤100000:=by have:=hbo.1;simp only [List.length_cons] at this;omega
  have hsh:∀ u∈ws,u.length≤100000:=fun u hu=>by have:=hbo.2.2 u (List.mem_cons_of_mem _ hu);simp only [List.length_nil] at this;omega
  have hnl:numL s=(atoiL ws).getD []:=by unfold numL;rw [hxw];rfl
  have hsp:∀ w,Lw Tryz.prog w→Calls Tryz.prog 44 #[.string (bs s),.string (bs [32])] w (News (fun sb:Nat=>.slice (some ⟨sb,0,none⟩) (ws.length + 1) (ws.length + 1)) (fun sb=>[(sb,sbO (x::ws) [])]) w):=fun w hw=>by
    have h:=AS7 s (by omega) w hw;rw [hbk] at h;exact h
  refine Aa0 Tryz.func17 rfl rfl ?_;refine st ?_;refine Ag0 (zF rfl CU2) rfl rfl rfl (fun w hm=>hsp w (hL.mono hm)) (fun b9=>?_)
  refine st ?_;refine lu (AE7 (n:=ws.length + 1) (v:=.slice (some ⟨b9,if ws.length + 1=1 then 0 else 0 + 1,none⟩) ws.length ws.length) rfl Au0 (by omega) (by omega) rfl) ?_;refine Ag5 (X:=Eng.Own×List Int) (n0:=[(b9,_)]) (ws.length) (fun k y q=>(13,.int .i64 (k:Int))::(2,ownV y.1 y.2.length)::q) (fun _ _=>_) (fun k y=>[]) (fun k y=>ownB 3 y.1 (y.2.map intC).flatten++[]) (fun k y=>OwnOk 1 y.1 y.2.length (y.2.map intC).flatten∧y.2.length=k∧atoiL (ws.take k)=some y.2) (none,[]) ⟨OwnOk.start,rfl,rfl⟩ rfl (zE 13 rfl rfl (zE 2 rfl rfl (zS 11 rfl (zS 12 rfl (Sub.nil _))))) (.cons .here rfl (Pick.same rfl)) ?_;intro k y kN kI;obtain ⟨y1,yl⟩:=y;obtain ⟨kI1,kI2,kI3⟩:=kI;dsimp only at kI1 kI2 kI3 ⊢;refine st ?_;refine cn rfl ?_ ?_
  ·intro c0'
   have hk:k < ws.length:=by omega
   obtain ⟨u,hu⟩:∃ u,ws[k]=u:=⟨_,rfl⟩;have hul:=hsh u (hu ▸ List.getElem_mem hk);refine st ?_;refine lv (Aa7 rfl rfl Au0 (by omega) (by omega) (show (some (⟨b9,if ws.length + 1=1 then 0 else 0 + 1,none⟩:Addr))=some ⟨b9,1,none⟩ by rw [if_neg (by omega)])) ?_;refine lv (Aa9 rfl (fun w hm=>Sl.loadM1 (AL1 (q:=some ⟨b9,1,none⟩) (hm.at (.head _)) (fun _=>rfl)) (by decide) (Mem.refl w) (by simp) AF3 hk (v:=.string (bs u)) (by simp [strC,hu]))) ?_;refine Ai7 [(b9,_)] _ rfl (zF rfl Cv5) rfl rfl rfl (fun w hm=>BI7 u (by omega) w (hL.mono hm)) (fun z19=>?_)
   skip
   refine st ?_;refine lv (BD6 rfl Tryz.underlying79 z19.err) ?_;refine cn rfl ?_ ?_
   ·intro c1'
    have hno:=(z19.2.resolve_left (fun h=>absurd (h.1.symm.trans c1') (by decide))).2.2;refine su ?_;exact RunE.ret (chg:=[]) (.r1 rfl (.tmp rfl)) (fun _ hm=>⟨⟨(none,[]),OwnOk.start,by rw [hnl,BU4 hno (hu ▸ List.getElem_mem hk)];rfl⟩,rfl,hm.pick (news':=[]) (Pick.cnt fun x=>by simp only [nC,List.map_append,List.flatten_append,List.map_cons,List.map_nil,List.flatten_cons,List.flatten_nil,List.append_nil];omega)⟩)
   intro c1';have hok:=(z19.2.resolve_right (fun h=>absurd (h.1.symm.trans c1') (by decide))).2.2;refine st ?_;refine zn (New.buildSlice (parts:=[(0,.tmp 25)]) rfl Af6 Aw8 rfl rfl rfl rfl) (fun b26=>?_)
   refine RunL.append (A:=[(b26,_),(b9,_)]) (B:=_) (x:=y1) (ys:=intC z19.1.1) CA7 rfl rfl rfl kI1 rfl (fun h=>by cases h) (fun w hm=>Am2 (hm.at (.head _))) (Aq9 rfl) (by simp only [maxLen];omega) (by omega) rfl (fun z27 hz27=>?_)
   refine st ?_;refine lv (Val.add rfl rfl (IntWalk.i64_in _ ⟨by omega,by omega⟩)) ?_;exact Ac7 (z27,yl++[z19.1.1]) (by omega) ⟨by have h:=hz27;simp only [List.map_append,List.flatten_append,List.length_append,List.length_singleton];simpa using h,by simp [kI2],Di4 hk kI3 hu hok⟩ rfl (zE 13 rfl rfl (zE 2 rfl (by simp) (zS 11 rfl (zS 12 rfl (Sub.nil _))))) (Pick.cnt fun x=>by simp only [nC,List.map_append,List.flatten_append,List.map_cons,List.map_nil,List.flatten_cons,List.flatten_nil,List.append_nil];omega)
  intro c0';have hk:k=ws.length:=by omega
  rw [hk,List.take_length] at kI3;refine RunC.exit ?_;refine su ?_;refine Ab1 ?_;refine su ?_;exact RunE.ret (chg:=[]) (.r1 rfl (.tmp rfl)) (fun _ hm=>⟨⟨(y1,yl),kI1,by rw [hnl,kI3];rfl⟩,rfl,hm.pick (Pick.skip (Pick.refl _))⟩)
end Go.Proofs.YtnmkdiagbkkmaabGreatDoor
namespace Go.Proofs.YtnmkdiagbkkmaabGreatDoor
open Go Go.Eng Go.Dk Go.RowKit Go.Pw1 Go.Hp

theorem By3 (s:Str) (hs:s.length≤100000) (W:World) (hL:Lw Tryz.prog W):Calls Tryz.prog 14 #[.string (bs s),.string (bs [32])] W (Pure (.tuple #[.string (bs (firstW s)),.string (bs (Lib.cut s [32]).2.1),.bool (Lib.cut s [32]).2.2]) W):=by
  have h:=Cb5 s hs W hL;rw [Cv0] at h;exact h
end Go.Proofs.YtnmkdiagbkkmaabGreatDoor
namespace Go.Proofs.YtnmkdiagbkkmaabGreatDoor
open Go Go.Eng
theorem CV1:Enters Tryz.prog 11:=Aa1 Tryz.func11 (by kernel_rfl) rfl
theorem CP2:Enters Tryz.prog 7:=Aa1 Tryz.func7 (by kernel_rfl) rfl
theorem Db3:Enters Tryz.prog 8:=Aa1 Tryz.func8 (by kernel_rfl) rfl
theorem CP1:Enters Tryz.prog 9:=Aa1 Tryz.func9 (by kernel_rfl) rfl
end Go.Proofs.YtnmkdiagbkkmaabGreatDoor
namespace Go.Proofs.YtnmkdiagbkkmaabGreatDoor
open Go Go.Eng
theorem Dr4:Enters Tryz.prog 17:=Aa1 Tryz.func17 (by kernel_rfl) rfl
end Go.Proofs.YtnmkdiagbkkmaabGreatDoor
namespace Go.Proofs.YtnmkdiagbkkmaabGreatDoor
open Go Go.Eng Go.Dk Go.RowKit Go.Pw1 Go.Hp

theorem AY1 {w:World} {d:DkX} (hd:DkOk d) (hD:BenA w d) (hw:waysE d.pl.heap=0):Calls Tryz.prog 13 #[.agg [ownV d.b d.bs.length,ownV d.c d.cs.length].toArray] w (News (fun z:{z:Eng.Own // OwnOk 1 z (SureX d.pl.heap).1.length ((SureX d.pl.heap).1.map intC).flatten}=>.tuple #[ownV z.1 (SureX d.pl.heap).1.length,.int .i64 0]) (fun z=>ownB 3 z.1 ((SureX d.pl.heap).1.map intC).flatten++[]) w):=by
  have e2:=d.mx_pl;have h:=Bh0 d.mx hD.sm w hD.m (by rw [e2];exact hw)
  have e:d.mx.v = .agg [ownV d.b d.bs.length,ownV d.c d.cs.length].toArray:=by
    show Value.agg [.slice (ownQ d.b) (d.bs.map BoX.a).length (ownC d.b),.slice (ownQ d.c) d.cs.length (ownC d.c)].toArray=_
    rw [List.length_map,Ac8 hd.b,Ac8 hd.c]
  rw [e,e2] at h;exact h
theorem BC0 {w:World} {d:DkX} (hd:DkOk d) (hD:BenA w d):Calls Tryz.prog 16 #[.agg [ownV d.b d.bs.length,ownV d.c d.cs.length].toArray] w (Pure (.tuple #[.int .i64 (CountX d.pl.heap).1,.int .i64 (CountX d.pl.heap).2]) w):=by
  have h:=AT0 d.mx hD.sm w hD.m
  have e:d.mx.v = .agg [ownV d.b d.bs.length,ownV d.c d.cs.length].toArray:=by
    show Value.agg [.slice (ownQ d.b) (d.bs.map BoX.a).length (ownC d.b),.slice (ownQ d.c) d.cs.length (ownC d.c)].toArray=_
    rw [List.length_map,Ac8 hd.b,Ac8 hd.c]
  rw [e,d.mx_pl] at h;exact h
theorem BF1 {d:DkX} (h:(WhyX d.pl.heap).2=0):waysE d.pl.heap=0:=by
  rw [← d.mx_pl] at h ⊢;exact BO8 h
theorem BP8 {d:DkX} (h:waysE d.pl.heap=0):(SureX d.pl.heap).1.length=d.cs.length:=by rw [(AV4 h).1,List.length_map,List.length_range];rfl
theorem AV5 {d:DkX} (j:Nat):In64 ((SureX d.pl.heap).1.getD j 0):=by
  rw [← d.mx_pl,List.getD_eq_getElem?_getD]
  cases e:(SureX d.mx.pl).1[j]? with
  | none=>exact (show In64 0 from ⟨by decide,by decide⟩)
  | some x=>exact Bn8 d.mx x (List.mem_of_getElem? e)
theorem Du5 {ns:List Int} (h:∀ n∈ns,0≤n∧n≤9223372036854775807) (k:Nat):ns.getD k 0=(N ns k:Int):=by
  have h1:0≤ns.getD k 0:=by
    rw [List.getD_eq_getElem?_getD]
    cases e:ns[k]? with
    | none=>exact Int.le_refl _
    | some v=>exact (h v (List.mem_of_getElem? e)).1
  unfold N;omega
theorem Cq6 (c:Cd) (q:Option Addr) (b o cap:Nat) (hq:q=none→cap=0) (l:List Str) (ql:Option Addr) (bl ol cl:Nat) (W:World) (hL:Lw Tryz.prog W) (hS:Sl W q b o 9 (c.p.things.map Th.cells)) (hls:Sl W ql bl ol 1 (l.map strC)) (h1:farL c l=true):Calls Tryz.prog 3 #[c.v q cap,.slice ql l.length cl] W (Pure (.bool true) W):=by
  refine Aa0 Tryz.func3 rfl rfl ?_;refine st ?_;refine zn (New.box rfl) (fun b2=>?_)
  refine zc (zF rfl CP2) (fun w hm=>AJ0 c q cap l ql bl ol cl w (hls.mono (by decide) hm (by simp))) ?_;refine Aj2 (dj:=29) true rfl h1 ?_;refine su ?_;refine RunC.cond rfl ?_ (fun h=>absurd h (by simp))
  intro c0;clear c0;refine st ?_;refine zc (zF rfl CP1) (fun w hm=>Az5 w (hL.mono hm)) ?_;exact Aa4 (.r1 rfl (.tmp rfl)) (by first | rfl | simp)
theorem BI2 (c:Cd) (q:Option Addr) (b o cap:Nat) (hq:q=none→cap=0) (l:List Str) (ql:Option Addr) (bl ol cl:Nat) (W:World) (hL:Lw Tryz.prog W) (hS:Sl W q b o 9 (c.p.things.map Th.cells)) (hls:Sl W ql bl ol 1 (l.map strC)) (h1:farL c l=false) (h2:heavyC c=true):Calls Tryz.prog 3 #[c.v q cap,.slice ql l.length cl] W (Pure (.bool true) W):=by
  have hl3:=(BJ8 h1).1;refine Aa0 Tryz.func3 rfl rfl ?_;refine st ?_;refine zn (New.box rfl) (fun b2=>?_)
  refine zc (zF rfl CP2) (fun w hm=>AJ0 c q cap l ql bl ol cl w (hls.mono (by decide) hm (by simp))) ?_;refine Aj2 (dj:=29) false rfl h1 ?_;refine su ?_;refine zc (zF rfl Db3) (fun w hm=>AG6 c q b o cap w (hS.mono (by decide) hm (by simp)) (by omega)) ?_;refine RunC.cond rfl ?_ (fun h=>absurd h (by simp [h2]))
  intro c0;clear c0;refine st ?_;refine zc (zF rfl CP1) (fun w hm=>Az5 w (hL.mono hm)) ?_;exact Aa4 (.r1 rfl (.tmp rfl)) (by first | rfl | simp)
theorem CL5 (c:Cd) (q:Option Addr) (b o cap:Nat) (hq:q=none→cap=0) (l:List Str) (ql:Option Addr) (bl ol cl:Nat) (W:World) (hL:Lw Tryz.prog W) (hS:Sl W q b o 9 (c.p.things.map Th.cells)) (hls:Sl W ql bl ol 1 (l.map strC)) (h1:farL c l=false) (h2:heavyC c=false) (hc:cardIs c=false):Calls Tryz.prog 3 #[c.v q cap,.slice ql l.length cl] W (Pure (.bool true) W):=by
  have hl3:=(BJ8 h1).1;have hund:Tryz.prog.underlying 33=some (.pointer 86):=by kernel_rfl
  refine Aa0 Tryz.func3 rfl rfl ?_;refine st ?_;refine zn (New.box rfl) (fun b2=>?_)
  refine zc (zF rfl CP2) (fun w hm=>AJ0 c q cap l ql bl ol cl w (hls.mono (by decide) hm (by simp))) ?_;refine Aj2 (dj:=29) false rfl h1 ?_;refine su ?_;refine zc (zF rfl Db3) (fun w hm=>AG6 c q b o cap w (hS.mono (by decide) hm (by simp)) (by omega)) ?_;refine RunC.cond rfl (fun h=>absurd h (by simp [h2])) ?_;intro c0;clear c0;refine su ?_;refine zc (zF rfl BT4) (fun w hm=>CV9 c q b o cap w (hS.mono (by decide) hm (by simp)) hq (by omega) hc) ?_;refine AK6 rfl ?_;refine st ?_;refine lv (An4 rfl hund) ?_;refine zc (zF rfl CP1) (fun w hm=>Az5 w (hL.mono hm)) ?_;exact Aa4 (.r1 rfl (.tmp rfl)) (by first | rfl | simp)
set_option maxHeartbeats 4000000 in
theorem CL4 (c:Cd) (q:Option Addr) (b o cap:Nat) (hq:q=none→cap=0) (l:List Str) (ql:Option Addr) (bl ol cl:Nat) (W:World) (hL:Lw Tryz.prog W) (hS:Sl W q b o 9 (c.p.things.map Th.cells)) (hls:Sl W ql bl ol 1 (l.map strC)) (h1:farL c l=false) (h2:heavyC c=false) (hc:cardIs c=true):Calls Tryz.prog 3 #[c.v q cap,.slice ql l.length cl] W (Pure (.bool true) W):=by
  obtain ⟨hl3,hl4,hl5⟩:=BJ8 h1;have hund:Tryz.prog.underlying 33=some (.pointer 86):=by kernel_rfl
  refine Aa0 Tryz.func3 rfl rfl ?_;refine st ?_;refine zn (New.box rfl) (fun b2=>?_)
  refine zc (zF rfl CP2) (fun w hm=>AJ0 c q cap l ql bl ol cl w (hls.mono (by decide) hm (by simp))) ?_;refine Aj2 (dj:=29) false rfl h1 ?_;refine su ?_;refine zc (zF rfl Db3) (fun w hm=>AG6 c q b o cap w (hS.mono (by decide) hm (by simp)) (by omega)) ?_;refine RunC.cond rfl (fun h=>absurd h (by simp [h2])) ?_;intro c0;clear c0;refine su ?_;refine Ag0 (zF rfl BT4) rfl rfl rfl (fun w hm=>CV8 c q b o cap w (hS.mono (by decide) hm (by simp)) hq (by omega) hc) (fun b36=>?_)
  refine st ?_;refine lv (An4 rfl hund) ?_;refine Aq5 rfl ?_;refine su ?_;refine Ag5 (X:=DkX) (n0:=[(b2,_)]) (l.length) (fun k yd q=>(56,.int .i64 (k:Int))::q) (fun _ _=>_) (fun k yd=>[(b36,dkO yd c)]) (fun k yd=>dkB yd++[]) (fun k yd=>DkOk yd∧Right c yd.pl) noDk ⟨Cp3,BX8 c⟩ rfl (zE 56 rfl rfl (zS 1 rfl (zS 2 rfl (zS 5 rfl (zS 54 rfl (zS 55 rfl (Sub.nil _))))))) (.cons .here rfl (.cons .here rfl (Pick.same rfl))) ?_;intro k yd kN kI;obtain ⟨kD,kR⟩:=kI;refine st ?_;refine cn rfl ?_ ?_
  ·intro c2'
   have hk:k < l.length:=by omega
   obtain ⟨v,hv⟩:∃ v,l[k]=v:=⟨_,rfl⟩;have hvm:v∈l:=hv ▸ List.getElem_mem hk;refine st ?_;refine lv (Aa7 rfl rfl Au0 (by omega) (by omega) (hls.ptrM hk)) ?_;refine lv (Aa9 rfl (fun w hm=>Sl.loadM1 hls (by decide) hm (by simp) AF3 hk (v:=.string (bs v)) (by simp [strC,hv]))) ?_;refine Ai7 [(b36,_),(b2,_)] _ rfl (zF rfl CV1) rfl rfl rfl (fun w hm=>Be7 b36 yd c kD w (Am6 kD (hm.pick (news':=dkM b36 yd c []) (Pick.cnt fun x=>by simp only [nC,dkM,List.append_nil];omega)))) (fun z61=>?_)
   skip
   refine zn (New.alloc AX1) (fun b9=>?_)
   refine Ab0 (Sto.store (cs:=[.slice none 0 0,.slice none 0 0,.slice none 0 0]) (cs':=[ownV z61.1.v z61.1.vs.length,ownV z61.1.b z61.1.bs.length,ownV z61.1.c z61.1.cs.length]) rfl rfl .here BF4 rfl (by have h:=AD2 (ownV z61.1.v z61.1.vs.length) (ownV z61.1.b z61.1.bs.length) (ownV z61.1.c z61.1.cs.length) (Ae4 _ _) (Ae4 _ _) (Ae4 _ _);exact h)) rfl rfl ?_;refine st ?_;refine Ar7 (zF rfl CV0) rfl rfl rfl (fun w hm=>(AW7 (nw':=fun z:DkX×Str×Int=>(b9,.cells [ownV z61.1.v z61.1.vs.length,ownV z61.1.b z61.1.bs.length,ownV z61.1.c z61.1.cs.length].toArray 43 (0,0))::(b36,dkO z.1 c)::(b2,.cells (cellsL (c.v q cap)).toArray 28 (0,0))::(dkB z61.1++(dkB z.1++[]))) (Bm5 v (by have:=hl5 v hvm;omega) b36 yd c ((b9,.cells [ownV z61.1.v z61.1.vs.length,ownV z61.1.b z61.1.bs.length,ownV z61.1.c z61.1.cs.length].toArray 43 (0,0))::(b2,.cells (cellsL (c.v q cap)).toArray 28 (0,0))::dkB z61.1) W w hL kD (hm.pick (Pick.cnt fun x=>by simp only [nC,dkM,List.append_nil];omega))) (fun _=>(Pick.cnt fun x=>by simp only [nC,dkM,List.append_nil];omega)))) (fun z65 hz65=>?_)
   obtain ⟨hzd,hzs⟩:=hz65;have hrz:=BX7 hc kR v;rw [← hzs] at hrz;refine st ?_;refine cn rfl ?_ ?_
   ·intro c3'
    refine RunC.exit ?_;refine Aj5 ?_;refine Ab1 ?_;refine st ?_;refine lv (Val.add rfl rfl (IntWalk.i64_in _ ⟨by omega,by omega⟩)) ?_;exact Ac7 z65.1 (by omega) ⟨hzd,hrz⟩ rfl (zE 56 rfl rfl (zS 1 rfl (zS 2 rfl (zS 5 rfl (zS 54 rfl (zS 55 rfl (Sub.nil _))))))) (Pick.cnt fun x=>by simp only [nC,dkM,List.append_nil];omega)
   intro c3';have he0:z65.2.2=0:=by simpa using c3'
   have hline:=Cj8 hzs he0;have hwA:=BF1 kR.w;have hwB:=BF1 hrz.w;have hA:=BP8 hwA;have hB:=BP8 hwB;have hfc:z61.1.cs.length=yd.cs.length:=by rw [(BQ9 z61.2.2).2.2]
   have hfb:z61.1.bs.length=yd.bs.length:=(BQ9 z61.2.2).2.1;have hfew:=kD.few;have hfew2:=hzd.few;refine st ?_;refine Ai7 [(b9,_),(b36,_),(b2,_)] _ rfl (zF rfl CV1) rfl rfl rfl (fun w hm=>Be7 b36 z65.1 c hzd w (Am6 hzd (hm.pick (news':=dkM b36 z65.1 c []) (Pick.cnt fun x=>by simp only [nC,dkM,List.append_nil];omega)))) (fun z71=>?_)
   have hfz:z71.1.cs.length=z65.1.cs.length:=by rw [(BQ9 z71.2.2).2.2]
   refine zn (New.alloc AX1) (fun b12=>?_)
   refine Ab0 (Sto.store (cs:=[.slice none 0 0,.slice none 0 0,.slice none 0 0]) (cs':=[ownV z71.1.v z71.1.vs.length,ownV z71.1.b z71.1.bs.length,ownV z71.1.c z71.1.cs.length]) rfl rfl .here BF4 rfl (by have h:=AD2 (ownV z71.1.v z71.1.vs.length) (ownV z71.1.b z71.1.bs.length) (ownV z71.1.c z71.1.cs.length) (Ae4 _ _) (Ae4 _ _) (Ae4 _ _);exact h)) rfl rfl ?_;refine su ?_;refine Ai7 [(b12,_),(b9,_),(b36,_),(b2,_)] _ rfl (zF rfl BT3) rfl rfl rfl (fun w hm=>AY1 z61.2.1 (CA2 z61.2.1 (hm.pick (news':=dkB z61.1++[]) (Pick.cnt fun x=>by simp only [nC,dkM,List.append_nil];omega))) (by rw [z61.2.2];exact hwA)) (fun z75=>?_)
   obtain ⟨y75,hy75⟩:=z75;dsimp only;rw [z61.2.2] at hy75 ⊢;refine su ?_;refine Ai7 [(b12,_),(b9,_),(b36,_),(b2,_)] _ rfl (zF rfl BT3) rfl rfl rfl (fun w hm=>AY1 z71.2.1 (CA2 z71.2.1 (hm.pick (news':=dkB z71.1++[]) (Pick.cnt fun x=>by simp only [nC,dkM,List.append_nil];omega))) (by rw [z71.2.2];exact hwB)) (fun z81=>?_)
   obtain ⟨y81,hy81⟩:=z81;dsimp only;rw [z71.2.2] at hy81 ⊢;refine st ?_;refine Aj2 (dj:=86) false rfl (by simp) ?_;refine st ?_;refine Aj2 (dj:=90) false rfl (by simp) ?_;refine st ?_;refine lu (Ae2 rfl Af6 hy75) ?_;refine lv (Ae2 rfl AU0 z61.2.1.c) ?_;refine Aj2 (dj:=99) false rfl (by simp [hA,hfc]) ?_;refine st ?_;refine lu (Ae2 rfl Af6 hy81) ?_;refine lv (Ae2 rfl AU0 z71.2.1.c) ?_;refine RunC.cond rfl (fun h=>absurd h (by simp [hB,hfz])) ?_;intro c4;clear c4;refine st ?_;refine zc (zF rfl Cx2) (fun w hm=>By3 v (by have:=hl5 v hvm;omega) w (hL.mono hm)) ?_;refine lv (Ar5 (b:=wCard) rfl rfl) ?_;refine cn rfl ?_ ?_
   ·intro c5'
    obtain ⟨t,hht,hwt,hs0,hsay⟩:=Cz5 (fun h=>BF1 (d:=z65.1) h) (Cb0 c5' hline);have hit:=An1 (n:=((SureX yd.pl.heap).1.length:Int)) ⟨by omega,by omega⟩;have hAB:(SureX z65.1.pl.heap).1.length=(SureX yd.pl.heap).1.length + 1:=by (rw [(AV4 hwB).1,(AV4 hwA).1,List.length_map,List.length_map,List.length_range,List.length_range,hht,List.length_append];rfl)
    refine st ?_;refine lv (Ae2 rfl Af6 hy75) ?_;refine zc (zF rfl AG5) (fun w hm=>Aj4 ((SureX yd.pl.heap).1.length:Int) ⟨by omega,by omega⟩ w (hL.mono hm)) ?_;refine lv (Al3 rfl rfl (by simp;omega)) ?_;refine lv (Ae2 rfl Af6 hy81) ?_;refine lv (Ae2 rfl Af6 hy75) ?_;refine lv (Val.add rfl rfl (IntWalk.i64_in _ ⟨by omega,by omega⟩)) ?_;refine RunC.cond rfl (fun h=>absurd h (by simp [hAB])) ?_;intro c6;clear c6;refine st ?_;refine lv (Ae2 rfl Af6 hy81) ?_;refine Ag5 (X:=Str) (n0:=[(b12,_),(b9,_),(b36,_),(b2,_)]) ((SureX z65.1.pl.heap).1.length) (fun j y q=>(130,.int .i64 (j:Int))::(20,.string (bs y))::q) (fun _ _=>_) (fun j y=>[]) (fun j y=>ownB 3 y81 ((SureX z65.1.pl.heap).1.map intC).flatten++(ownB 3 y75 ((SureX yd.pl.heap).1.map intC).flatten++(dkB z71.1++(dkB z61.1++(dkB z65.1++[]))))) (fun j y=>y=toldTo (SureX yd.pl.heap).1 (SureX z65.1.pl.heap).1 j∧y.length≤100 + 100 * j) ([99,97,114,100,32]++Lib.itoa ((SureX yd.pl.heap).1.length:Int)) ⟨(by simp [toldTo,newsTo,sayX,wCard]),(by have hit:=An1 (n:=((SureX yd.pl.heap).1.length:Int)) ⟨by omega,by omega⟩;simp only [List.length_append,List.length_cons,List.length_nil];omega)⟩ rfl (zE 130 rfl rfl (zE 20 rfl rfl (zS 1 rfl (zS 2 rfl (zS 5 rfl (zS 8 rfl (zS 10 rfl (zS 13 rfl (zS 15 rfl (zS 54 rfl (zS 55 rfl (zS 56 rfl (zS 115 rfl (zS 128 rfl (zS 129 rfl (Sub.nil _)))))))))))))))) (.cons .here rfl (.cons .here rfl (.cons .here rfl (.cons .here rfl (Pick.same rfl))))) ?_;intro j y jN jI;obtain ⟨jI,jy⟩:=jI;refine st ?_;refine cn rfl ?_ ?_
    ·intro c7'
     have hj:j < (SureX z65.1.pl.heap).1.length:=by omega
     obtain ⟨oj,hoj⟩:∃ n,(SureX yd.pl.heap).1.getD j 0=n:=⟨_,rfl⟩;obtain ⟨nj,hnj⟩:∃ n,(SureX z65.1.pl.heap).1.getD j 0=n:=⟨_,rfl⟩;have hsn:=CY1 (l:=(SureX yd.pl.heap).1) (j:=j) (by omega);have hit1:=An1 (n:=(j:Int)) ⟨by omega,by omega⟩;have hit2:=An1 (n:=nj) (by rw [← hnj];exact AV5 j);have hst:j < (SureX yd.pl.heap).1.length→oj ≠ -1→oj=nj:=by (intro h3 h4;rw [← hoj,BP9 hwA (by rw [hA] at h3;exact h3)] at h4 ⊢;rw [← hnj,BP9 hwB (by rw [hB] at hj;exact hj),hht];exact (BW9 (by rw [hht] at hwB;exact hwB) (by rw [hA] at h3;exact h3) h4).symm)
     refine st ?_;refine lv (Aa7 (by show some (ownV y81 (SureX z65.1.pl.heap).1.length)=_;rw [Ac8 hy81]) rfl Af6 (by first | decide | omega) (by omega) (Ao2 hy81 (by omega))) ?_;refine lv (Aa9 rfl (fun w hm=>Sl.cellE (Ai5 (f:=intC) (e:=3) (fun _=>rfl) (by decide) hy81 (fun b o h=>hm.at (.tail _ (.tail _ (.tail _ (.tail _ ((by first | exact List.mem_append_left _ h | exact List.mem_append_right _ (List.mem_append_left _ h))))))))) (Mem.refl w) (by simp) Ag2 (i:=j) (by omega) (x:=nj) (by have h:=hnj;rw [List.getD_eq_getElem?_getD,List.getElem?_eq_getElem (by omega)] at h;exact h) (j:=0) (by decide) (v:=.int .i64 nj) rfl (by simp))) ?_;refine lv (Ae2 rfl Af6 hy75) ?_
     refine Ab3 (dj:=139) (dp:=145) 6 rfl (fun g139=>by
       have g139':=g139;try simp only [nH] at g139'
       refine st ?_;refine lv (Aa7 (by show some (ownV y75 (SureX yd.pl.heap).1.length)=_;rw [Ac8 hy75]) rfl Af6 (by first | decide | omega) (by omega) (Ao2 hy75 (by omega))) ?_;refine Ac9 (Aa9 rfl (fun w hm=>Sl.cellE (Ai5 (f:=intC) (e:=3) (fun _=>rfl) (by decide) hy75 (fun b o h=>hm.at (.tail _ (.tail _ (.tail _ (.tail _ ((by first | exact List.mem_append_right _ (List.mem_append_left _ h) | exact List.mem_append_right _ (List.mem_append_right _ (List.mem_append_left _ h)))))))))) (Mem.refl w) (by simp) Ag2 (i:=j) (by omega) (x:=oj) (by have h:=hoj;rw [List.getD_eq_getElem?_getD,List.getElem?_eq_getElem (by omega)] at h;exact h) (j:=0) (by decide) (v:=.int .i64 oj) rfl (by simp))) rfl rfl rfl ?_;refine sv ?_;exact zs g139
     ) (fun g139=>by
       have g139':=g139;try simp only [nH] at g139'
       iterate 5 refine Ab7 rfl rfl rfl ?_
       refine sv ?_;exact zs g139
     ) ?_
     refine st ?_
     refine Ab3 (dj:=146) (dp:=153) 7 rfl (fun g146=>by
       have g146':=g146;try simp only [nH] at g146'
       refine st ?_;refine lv (Aa7 (by show some (ownV y75 (SureX yd.pl.heap).1.length)=_;rw [Ac8 hy75]) rfl Af6 (by first | decide | omega) (by omega) (Ao2 hy75 (by omega))) ?_;refine Ac9 (Aa9 rfl (fun w hm=>Sl.cellE (Ai5 (f:=intC) (e:=3) (fun _=>rfl) (by decide) hy75 (fun b o h=>hm.at (.tail _ (.tail _ (.tail _ (.tail _ ((by first | exact List.mem_append_right _ (List.mem_append_left _ h) | exact List.mem_append_right _ (List.mem_append_right _ (List.mem_append_left _ h)))))))))) (Mem.refl w) (by simp) Ag2 (i:=j) (by omega) (x:=oj) (by have h:=hoj;rw [List.getD_eq_getElem?_getD,List.getElem?_eq_getElem (by omega)] at h;exact h) (j:=0) (by decide) (v:=.int .i64 oj) rfl (by simp))) rfl rfl rfl ?_;refine sv ?_;exact zs g146
     ) (fun g146=>by
       have g146':=g146;try simp only [nH] at g146'
       iterate 6 refine Ab7 rfl rfl rfl ?_
       refine sv ?_;exact zs g146
     ) ?_
     refine st ?_;refine RunC.cond rfl (fun h=>absurd h (by simp;exact hst)) ?_;intro c8;clear c8;refine st ?_
     refine Ab3 (dj:=156) (dp:=168) 12 rfl (fun g156=>by
       have g156':=g156;try simp only [nH] at g156'
       refine st ?_;refine lv (Ae2 rfl Af6 hy75) ?_
       refine Ad6 (dj:=161) (dp:=167) 6 rfl (fun g161=>by
         have g161':=g161;try simp only [nH] at g161'
         refine st ?_;refine lv (Aa7 (by show some (ownV y75 (SureX yd.pl.heap).1.length)=_;rw [Ac8 hy75]) rfl Af6 (by first | decide | omega) (by omega) (Ao2 hy75 (by omega))) ?_;refine Ac9 (Aa9 rfl (fun w hm=>Sl.cellE (Ai5 (f:=intC) (e:=3) (fun _=>rfl) (by decide) hy75 (fun b o h=>hm.at (.tail _ (.tail _ (.tail _ (.tail _ ((by first | exact List.mem_append_right _ (List.mem_append_left _ h) | exact List.mem_append_right _ (List.mem_append_right _ (List.mem_append_left _ h)))))))))) (Mem.refl w) (by simp) Ag2 (i:=j) (by omega) (x:=oj) (by have h:=hoj;rw [List.getD_eq_getElem?_getD,List.getElem?_eq_getElem (by omega)] at h;exact h) (j:=0) (by decide) (v:=.int .i64 oj) rfl (by simp))) rfl rfl rfl ?_;refine sv ?_;exact zs g161
       ) (fun g161=>by
         have g161':=g161;try simp only [nH] at g161'
         iterate 5 refine Ab7 rfl rfl rfl ?_
         refine sv ?_;exact zs g161
       ) ?_
       refine sv ?_;exact zs g156
     ) (fun g156=>by
       have g156':=g156;try simp only [nH] at g156'
       iterate 11 refine Ab7 rfl rfl rfl ?_
       refine sv ?_;exact zs g156
     ) ?_
     refine st ?_;refine cn rfl ?_ ?_
     ·intro c9'
      have htl:¬((SureX z65.1.pl.heap).1.getD j 0 = -1∨((SureX yd.pl.heap).1++[-1]).getD j 0 ≠ -1):=by (rw [hsn,hnj,hoj];split <;> simp_all <;> omega)
      refine st ?_;refine zc (zF rfl AG5) (fun w hm=>Aj4 (j:Int) ⟨by omega,by omega⟩ w (hL.mono hm)) ?_;refine lv (Al3 rfl rfl (by simp;omega)) ?_;refine lv (Al3 rfl rfl (by simp;omega)) ?_;refine zc (zF rfl AG5) (fun w hm=>Aj4 nj (by rw [← hnj];exact AV5 j) w (hL.mono hm)) ?_;refine lv (Al3 rfl rfl (by simp;omega)) ?_;refine lv (Al3 rfl rfl (by simp;omega)) ?_;refine lv (Val.add rfl rfl (IntWalk.i64_in _ ⟨by omega,by omega⟩)) ?_;exact Ac7 (y++((([32,105,115,32]++Lib.itoa (j:Int))++[32])++Lib.itoa nj)) (by omega) ⟨(by rw [jI,CG5 htl,hnj];simp [sayX,wIs]),(by simp only [List.length_append,List.length_cons,List.length_nil];omega)⟩ rfl (zE 130 rfl rfl (zE 20 rfl rfl (zS 1 rfl (zS 2 rfl (zS 5 rfl (zS 8 rfl (zS 10 rfl (zS 13 rfl (zS 15 rfl (zS 54 rfl (zS 55 rfl (zS 56 rfl (zS 115 rfl (zS 128 rfl (zS 129 rfl (Sub.nil _)))))))))))))))) (Pick.cnt fun x=>by simp only [nC,dkM,List.append_nil];omega)
     intro c9';have htl:(SureX z65.1.pl.heap).1.getD j 0 = -1∨((SureX yd.pl.heap).1++[-1]).getD j 0 ≠ -1:=by (rw [hsn,hnj,hoj];split <;> simp_all <;> omega)
     refine st ?_;refine lv (Val.add rfl rfl (IntWalk.i64_in _ ⟨by omega,by omega⟩)) ?_;exact Ac7 y (by omega) ⟨(by rw [jI];exact (CX5 htl).symm),(by omega)⟩ rfl (zE 130 rfl rfl (zE 20 rfl rfl (zS 1 rfl (zS 2 rfl (zS 5 rfl (zS 8 rfl (zS 10 rfl (zS 13 rfl (zS 15 rfl (zS 54 rfl (zS 55 rfl (zS 56 rfl (zS 115 rfl (zS 128 rfl (zS 129 rfl (Sub.nil _)))))))))))))))) (Pick.cnt fun x=>by simp only [nC,dkM,List.append_nil];omega)
    intro c7';have hj:j=(SureX z65.1.pl.heap).1.length:=by omega
    rw [hj] at jI;rw [← jI] at hsay;refine RunC.exit ?_;refine su ?_;refine Ab1 ?_;refine st ?_;refine lv (Al4 rfl rfl) ?_;refine RunC.cond rfl (fun h=>absurd h (by first | (rw [hsay];simp;done) | (rw [hsay];simp [sayX,wBox,wWays,wWhich,wCard,wIs,wDoubt];done) | (rw [hsay];rfl) | (rw [hsay];decide) | simp [hsay] | simp)) ?_;intro c15;clear c15;refine st ?_;refine lv (Val.add rfl rfl (IntWalk.i64_in _ ⟨by omega,by omega⟩)) ?_;exact Ac7 z65.1 (by omega) ⟨hzd,hrz⟩ rfl (zE 56 rfl rfl (zS 1 rfl (zS 2 rfl (zS 5 rfl (zS 54 rfl (zS 55 rfl (Sub.nil _))))))) (Pick.cnt fun x=>by simp only [nC,dkM,List.append_nil];omega)
   intro c5';refine st ?_;refine lv (Ar5 (b:=wBox) rfl rfl) ?_;refine cn rfl ?_ ?_
   ·intro c10'
    have hsay:=CQ7 (Cb1 c10' hline);rw [show (yd.pl.heap.boxes.length:Int)=(z61.1.bs.length:Int) by rw [hfb];show ((yd.bs.map BoX.pl).length:Int)=_;rw [List.length_map]] at hsay;have hit:=An1 (n:=(z61.1.bs.length:Int)) ⟨by omega,by omega⟩;refine su ?_;refine lv (Ae2 rfl Bo1 z61.2.1.b) ?_;refine zc (zF rfl AG5) (fun w hm=>Aj4 (z61.1.bs.length:Int) ⟨by omega,by omega⟩ w (hL.mono hm)) ?_;refine lv (Al3 rfl rfl (by simp;omega)) ?_;refine lv (Al4 rfl rfl) ?_;refine RunC.cond rfl (fun h=>absurd h (by first | (rw [hsay];simp;done) | (rw [hsay];simp [sayX,wBox,wWays,wWhich,wCard,wIs,wDoubt];done) | (rw [hsay];rfl) | (rw [hsay];decide) | simp [hsay] | simp)) ?_;intro c15;clear c15;refine st ?_;refine lv (Val.add rfl rfl (IntWalk.i64_in _ ⟨by omega,by omega⟩)) ?_;exact Ac7 z65.1 (by omega) ⟨hzd,hrz⟩ rfl (zE 56 rfl rfl (zS 1 rfl (zS 2 rfl (zS 5 rfl (zS 54 rfl (zS 55 rfl (Sub.nil _))))))) (Pick.cnt fun x=>by simp only [nC,dkM,List.append_nil];omega)
   intro c10';refine st ?_;refine lv (Ar5 (b:=wWays) rfl rfl) ?_;refine cn rfl ?_ ?_
   ·intro c11'
    obtain ⟨ns,hn1,hn2,hn3,hn4⟩:=BS0 (v:=_) (show verbX (firstW v)=some _ by rw [c11'];rfl) (by rw [c11'];decide) (by rw [c11'];decide) hline;obtain ⟨hsb,hsay⟩:=Cg3 hn4;have hzp:z71.1.pl=yd.pl:=z71.2.2.trans hsb;rw [← hzp] at hsay;have hit:=An1 (n:=(CountX z71.1.pl.heap).1) (by rw [← z71.1.mx_pl];exact AW6 _);refine su ?_;refine zc (zF rfl CU9) (fun w hm=>BC0 z71.2.1 (CA2 z71.2.1 (hm.pick (news':=dkB z71.1++[]) (Pick.cnt fun x=>by simp only [nC,dkM,List.append_nil];omega)))) ?_;refine zc (zF rfl AG5) (fun w hm=>Aj4 (CountX z71.1.pl.heap).1 (by rw [← z71.1.mx_pl];exact AW6 _) w (hL.mono hm)) ?_;refine lv (Al3 rfl rfl (by simp;omega)) ?_;refine lv (Al4 rfl rfl) ?_;refine RunC.cond rfl (fun h=>absurd h (by first | (rw [hsay];simp;done) | (rw [hsay];simp [sayX,wBox,wWays,wWhich,wCard,wIs,wDoubt];done) | (rw [hsay];rfl) | (rw [hsay];decide) | simp [hsay] | simp)) ?_;intro c15;clear c15;refine st ?_;refine lv (Val.add rfl rfl (IntWalk.i64_in _ ⟨by omega,by omega⟩)) ?_;exact Ac7 z65.1 (by omega) ⟨hzd,hrz⟩ rfl (zE 56 rfl rfl (zS 1 rfl (zS 2 rfl (zS 5 rfl (zS 54 rfl (zS 55 rfl (Sub.nil _))))))) (Pick.cnt fun x=>by simp only [nC,dkM,List.append_nil];omega)
   intro c11';refine st ?_;refine lv (Ar5 (b:=wWhich) rfl rfl) ?_;refine cn rfl ?_ ?_
   ·intro c12'
    obtain ⟨ns,hn1,hn2,hn3,hn4⟩:=BS0 (v:=_) (show verbX (firstW v)=some _ by rw [c12'];rfl) (by rw [c12'];decide) (by rw [c12'];decide) hline;obtain ⟨hsb,hkc,hsay⟩:=BV5 hn4;have hn2:ns.length=1:=hn2;obtain ⟨i,hNi⟩:∃ i,N ns 0=i:=⟨_,rfl⟩;rw [hNi] at hkc hsay;have hi:ns.getD 0 0=(i:Int):=by (rw [Du5 (Co8 hn1 ▸ Co9 hline) 0,hNi])
    have hkB:i < (SureX z65.1.pl.heap).1.length:=by (rw [hB,← (show z65.1.pl.heap.cards.length=z65.1.cs.length from rfl),hsb];exact hkc)
    rw [← hsb] at hsay;obtain ⟨bi,hbi⟩:∃ n,(SureX z65.1.pl.heap).1.getD i 0=n:=⟨_,rfl⟩;rw [hbi] at hsay;refine st ?_;refine Ai7 [(b12,_),(b9,_),(b36,_),(b2,_)] _ rfl (zF rfl Dr4) rfl rfl rfl (fun w hm=>Bf4 v (by have:=hl5 v hvm;omega) w (hL.mono hm)) (fun z201=>?_)
    obtain ⟨⟨nz,nl⟩,hno,hnl⟩:=z201;dsimp only at hno hnl ⊢;obtain rfl:nl=ns:=by rw [hnl,Co8 hn1]
    refine st ?_;refine lv (Ae2 rfl Af6 hno) ?_;refine Aj2 (dj:=205) false rfl (by simp [hn2]) ?_;refine st ?_;refine lv (Aa7 (by show some (ownV nz nl.length)=_;rw [Ac8 hno]) rfl Af6 (by decide) (by omega) (Ao2 hno (by omega))) ?_;refine lv (Aa9 rfl (fun w hm=>Sl.cellE (Ai5 (f:=intC) (e:=3) (fun _=>rfl) (by decide) hno (fun b o h=>hm.at (.tail _ (.tail _ (.tail _ (.tail _ ((by first | exact List.mem_append_left _ h | exact List.mem_append_right _ (List.mem_append_left _ h))))))))) (Mem.refl w) (by simp) Ag2 (i:=0) (by omega) (x:=(i:Int)) (by rw [← hi,List.getD_eq_getElem?_getD,List.getElem?_eq_getElem (by omega)];rfl) (j:=0) (by decide) (v:=.int .i64 (i:Int)) rfl (by simp))) ?_;refine lv (Ae2 rfl Af6 hy81) ?_;refine RunC.cond rfl (fun h=>absurd h (by simp;omega)) ?_;intro c13;clear c13;refine st ?_;refine lv (Aa7 (by show some (ownV nz nl.length)=_;rw [Ac8 hno]) rfl Af6 (by decide) (by omega) (Ao2 hno (by omega))) ?_;refine lv (Aa9 rfl (fun w hm=>Sl.cellE (Ai5 (f:=intC) (e:=3) (fun _=>rfl) (by decide) hno (fun b o h=>hm.at (.tail _ (.tail _ (.tail _ (.tail _ ((by first | exact List.mem_append_left _ h | exact List.mem_append_right _ (List.mem_append_left _ h))))))))) (Mem.refl w) (by simp) Ag2 (i:=0) (by omega) (x:=(i:Int)) (by rw [← hi,List.getD_eq_getElem?_getD,List.getElem?_eq_getElem (by omega)];rfl) (j:=0) (by decide) (v:=.int .i64 (i:Int)) rfl (by simp))) ?_;refine lv (Aa7 (by show some (ownV y81 (SureX z65.1.pl.heap).1.length)=_;rw [Ac8 hy81]) rfl Af6 (by first | decide | omega) (by omega) (Ao2 hy81 (by omega))) ?_;refine lv (Aa9 rfl (fun w hm=>Sl.cellE (Ai5 (f:=intC) (e:=3) (fun _=>rfl) (by decide) hy81 (fun b o h=>hm.at (.tail _ (.tail _ (.tail _ (.tail _ ((by first | exact List.mem_append_right _ (List.mem_append_left _ h) | exact List.mem_append_right _ (List.mem_append_right _ (List.mem_append_left _ h)))))))))) (Mem.refl w) (by simp) Ag2 (i:=i) (by omega) (x:=bi) (by have h:=hbi;rw [List.getD_eq_getElem?_getD,List.getElem?_eq_getElem (by omega)] at h;exact h) (j:=0) (by decide) (v:=.int .i64 bi) rfl (by simp))) ?_;refine cn rfl ?_ ?_
    ·intro c14'
     rw [if_neg (by simpa using c14')] at hsay;have hit:=An1 (n:=bi) (by rw [← hbi];exact AV5 i);refine st ?_;refine lv (Aa7 (by show some (ownV nz nl.length)=_;rw [Ac8 hno]) rfl Af6 (by decide) (by omega) (Ao2 hno (by omega))) ?_;refine lv (Aa9 rfl (fun w hm=>Sl.cellE (Ai5 (f:=intC) (e:=3) (fun _=>rfl) (by decide) hno (fun b o h=>hm.at (.tail _ (.tail _ (.tail _ (.tail _ ((by first | exact List.mem_append_left _ h | exact List.mem_append_right _ (List.mem_append_left _ h))))))))) (Mem.refl w) (by simp) Ag2 (i:=0) (by omega) (x:=(i:Int)) (by rw [← hi,List.getD_eq_getElem?_getD,List.getElem?_eq_getElem (by omega)];rfl) (j:=0) (by decide) (v:=.int .i64 (i:Int)) rfl (by simp))) ?_;refine lv (Aa7 (by show some (ownV y81 (SureX z65.1.pl.heap).1.length)=_;rw [Ac8 hy81]) rfl Af6 (by first | decide | omega) (by omega) (Ao2 hy81 (by omega))) ?_;refine lv (Aa9 rfl (fun w hm=>Sl.cellE (Ai5 (f:=intC) (e:=3) (fun _=>rfl) (by decide) hy81 (fun b o h=>hm.at (.tail _ (.tail _ (.tail _ (.tail _ ((by first | exact List.mem_append_right _ (List.mem_append_left _ h) | exact List.mem_append_right _ (List.mem_append_right _ (List.mem_append_left _ h)))))))))) (Mem.refl w) (by simp) Ag2 (i:=i) (by omega) (x:=bi) (by have h:=hbi;rw [List.getD_eq_getElem?_getD,List.getElem?_eq_getElem (by omega)] at h;exact h) (j:=0) (by decide) (v:=.int .i64 bi) rfl (by simp))) ?_;refine zc (zF rfl AG5) (fun w hm=>Aj4 bi (by rw [← hbi];exact AV5 i) w (hL.mono hm)) ?_;refine lv (Al3 rfl rfl (by simp;omega)) ?_;refine lv (Al4 rfl rfl) ?_;refine RunC.cond rfl (fun h=>absurd h (by first | (rw [hsay];simp;done) | (rw [hsay];simp [sayX,wBox,wWays,wWhich,wCard,wIs,wDoubt];done) | (rw [hsay];rfl) | (rw [hsay];decide) | simp [hsay] | simp)) ?_;intro c15;clear c15;refine st ?_;refine lv (Val.add rfl rfl (IntWalk.i64_in _ ⟨by omega,by omega⟩)) ?_;exact Ac7 z65.1 (by omega) ⟨hzd,hrz⟩ rfl (zE 56 rfl rfl (zS 1 rfl (zS 2 rfl (zS 5 rfl (zS 54 rfl (zS 55 rfl (Sub.nil _))))))) (Pick.cnt fun x=>by simp only [nC,dkM,List.append_nil];omega)
    intro c14';rw [if_pos (by simpa using c14')] at hsay;refine st ?_;refine lv (Al4 rfl rfl) ?_;refine RunC.cond rfl (fun h=>absurd h (by first | (rw [hsay];simp;done) | (rw [hsay];simp [sayX,wBox,wWays,wWhich,wCard,wIs,wDoubt];done) | (rw [hsay];rfl) | (rw [hsay];decide) | simp [hsay] | simp)) ?_;intro c15;clear c15;refine st ?_;refine lv (Val.add rfl rfl (IntWalk.i64_in _ ⟨by omega,by omega⟩)) ?_;exact Ac7 z65.1 (by omega) ⟨hzd,hrz⟩ rfl (zE 56 rfl rfl (zS 1 rfl (zS 2 rfl (zS 5 rfl (zS 54 rfl (zS 55 rfl (Sub.nil _))))))) (Pick.cnt fun x=>by simp only [nC,dkM,List.append_nil];omega)
   intro c12';refine st ?_;refine lv (Al4 rfl rfl) ?_;refine RunC.cond rfl (fun h=>absurd h (by first | (rw [hsay];simp;done) | (rw [hsay];simp [sayX,wBox,wWays,wWhich,wCard,wIs,wDoubt];done) | (rw [hsay];rfl) | (rw [hsay];decide) | simp [hsay] | simp)) ?_;intro c15;clear c15;refine st ?_;refine lv (Val.add rfl rfl (IntWalk.i64_in _ ⟨by omega,by omega⟩)) ?_;exact Ac7 z65.1 (by omega) ⟨hzd,hrz⟩ rfl (zE 56 rfl rfl (zS 1 rfl (zS 2 rfl (zS 5 rfl (zS 54 rfl (zS 55 rfl (Sub.nil _))))))) (Pick.cnt fun x=>by simp only [nC,dkM,List.append_nil];omega)
  intro c2';refine RunC.exit ?_;refine su ?_;refine Ab1 ?_;refine st ?_;refine zc (zF rfl CP1) (fun w hm=>Az5 w (hL.mono hm)) ?_;exact Aa4 (.r1 rfl (.tmp rfl)) (by first | rfl | simp)
end Go.Proofs.YtnmkdiagbkkmaabGreatDoor
namespace Go.Proofs.YtnmkdiagbkkmaabGreatDoor
open Go Go.Eng Go.Pw1

abbrev spSh:Sh:=.st [.int .i64,.int .i64]
abbrev plSh:Sh:=.st [spSh,spSh]
abbrev thSh:Sh:=.st [plSh,plSh,.int .i64]
abbrev prSh:Sh:=.st [spSh,spSh,.int .i64,.int .i64,.int .i64,.sl thSh]
theorem Cm0 {w:World} {cs:List Value} (h:Rd w spSh cs):∃ s:Sp,cs=[.int .i64 s.lo,.int .i64 s.hi]:=by
  cases h with
  | recS h1 h2 =>
    cases h1
    cases h2 with
    | recS h3 h4 =>
      cases h3
      cases h4
      exact ⟨⟨_,_⟩,rfl⟩
theorem Dl6 {w:World} {cs:List Value} (h:Rd w plSh cs):∃ s t:Sp,cs=[.int .i64 s.lo,.int .i64 s.hi,.int .i64 t.lo,.int .i64 t.hi]:=by
  cases h with
  | recS h1 h2 =>
    obtain ⟨s,rfl⟩:=Cm0 h1
    cases h2 with
    | recS h3 h4 =>
      obtain ⟨t,rfl⟩:=Cm0 h3
      cases h4
      exact ⟨s,t,rfl⟩
theorem Dt6 {w:World} {cs:List Value} (h:Rd w thSh cs):∃ t:Th,cs=t.cells:=by
  cases h with
  | recS h1 h2 =>
    obtain ⟨a,b,rfl⟩:=Dl6 h1
    cases h2 with
    | recS h3 h4 =>
      obtain ⟨c,d,rfl⟩:=Dl6 h3
      cases h4 with
      | recS h5 h6 =>
        cases h5
        cases h6
        exact ⟨⟨a,b,c,d,_⟩,rfl⟩
theorem BG9 {α:Type} {f:α→List Value}:∀ {xs:List (List Value)},(∀ x∈xs,∃ a,x=f a)→∃ l:List α,xs=l.map f
  | [],_=>⟨[],rfl⟩
  | x::xs,h=>by
    obtain ⟨a,rfl⟩:=h x (by simp);obtain ⟨l,rfl⟩:=BG9 (xs:=xs) (fun y hy=>h y (List.mem_cons_of_mem _ hy));exact ⟨a::l,rfl⟩
structure In (w:World) (p:Pr) (q:Option Addr) (b o cap:Nat):Prop where
  s:Sl w q b o 9 (p.things.map Th.cells)
  n:q=none→p.things.length=0∧cap=0
theorem Dt7 {w:World} {cs:List Value} (h:Rd w prSh cs):∃ (p:Pr) (q:Option Addr) (b o cap:Nat),cs=p.cells q cap∧In w p q b o cap:=by
  cases h with
  | recS h1 h2 =>
  obtain ⟨f,rfl⟩:=Cm0 h1
  cases h2 with
  | recS h1 h2 =>
  obtain ⟨g,rfl⟩:=Cm0 h1
  cases h2 with
  | recS h1 h2 =>
  cases h1
  cases h2 with
  | recS h1 h2 =>
  cases h1
  cases h2 with
  | recS h1 h2 =>
  cases h1
  cases h2 with
  | recS h1 h2 =>
  cases h2
  cases h1 with
  | slNil=>exact ⟨⟨f,g,_,_,_,[]⟩,none,0,0,0,rfl,⟨Sl.emp,fun _=>⟨rfl,rfl⟩⟩⟩
  | sl hs hl hc hx =>
    obtain ⟨ts,rfl⟩:=BG9 (f:=Th.cells) (fun x hx'=>Dt6 (hx x hx'));exact ⟨⟨f,g,_,_,_,ts⟩,some _,_,_,_,by rw [List.length_map];rfl,⟨hs,fun h=>by cases h⟩⟩
abbrev cdSh:Sh:=.st [prSh,.int .i64,.int .i64,.int .i64,spSh,.int .i64,.int .i64,.int .i64,.int .i64]
theorem Dt9 {w:World} {cs:List Value} (h:Rd w cdSh cs):∃ (c:Cd) (q:Option Addr) (b o cap:Nat),cs=c.cells q cap∧In w c.p q b o cap:=by
  cases h with
  | recS h1 h2 =>
  obtain ⟨p,q,b,o,cap,rfl,hp⟩:=Dt7 h1
  cases h2 with
  | recS h1 h2 =>
  cases h1
  cases h2 with
  | recS h1 h2 =>
  cases h1
  cases h2 with
  | recS h1 h2 =>
  cases h1
  cases h2 with
  | recS h1 h2 =>
  obtain ⟨e,rfl⟩:=Cm0 h1
  cases h2 with
  | recS h1 h2 =>
  cases h1
  cases h2 with
  | recS h1 h2 =>
  cases h1
  cases h2 with
  | recS h1 h2 =>
  cases h1
  cases h2 with
  | recS h1 h2 =>
  cases h1
  cases h2
  exact ⟨⟨p,_,_,_,e,_,_,_,_⟩,q,b,o,cap,rfl,hp⟩
end Go.Proofs.YtnmkdiagbkkmaabGreatDoor
namespace Go.Eng
open Go Go.RowKit Go.ChangeShapes Go.WideShapes Go.ChangeAt
theorem AQ6 {H:Type} {enc:TypeId×Value→H} {a:Assume} {C:Checked} {os:Os} {f:FuncId} {fn:Func} {s:ChangeSpec} {conds:List PathCond} {apart fresh handsOn again:Bool} {X:World→Array Value→Prop}
    (hX:∀ (w w':World) (args:Array Value),w.heap=w'.heap→X w args→X w' args)
    (own:ownKnob C.prog.godebug=none) (started:os.Started) (noInit:C.prog.inits.idxOf? f=none) (hfn:C.prog.funcs[f]? = some fn)
    (witness:∃ (w:World) (tape:Tape) (i:Input),w.os=os∧(w.forCall tape i).Shaped C.prog∧i.vars=[]∧Input.okWide C.prog (w.forCall tape i) .any w.heap.size f i ∧
      ((s.pre enc C.prog fn conds apart (w.forCall tape i).memory i.args∧X (w.forCall tape i).memory i.args)∧sizedMet enc C.prog fn (OpenSpec.ofChange s) apart (w.forCall tape i).memory i.args)∧a.holds C.prog (lone (Frame.enter C.prog f i.args .normal) [] (w.forCall tape i)))
    (contract:∀ (W:World) (base:Nat) (args:Array Value) (ds gs:List (DataW H)) (before:List MemPlace),
      (∀ (j:Nat) t v,fn.params[j]? = some t→args[j]? = some v→Value.okWide C.prog W .any base t v) →
      DataW.Whole enc C.prog fn.params.toList s.vars apart W args.toList ds gs before→W.ShapedOpen C.prog→X W args →
      Calls C.prog f args W fun e W'=>∃ v,e = .returned v∧s.post enc C.prog fn apart fresh handsOn again W args v W') :
    ReturnsInHanded a C os f .any (fun w args=>(s.pre enc C.prog fn conds apart w args∧X w args)∧sizedMet enc C.prog fn (OpenSpec.ofChange s) apart w args) (s.post enc C.prog fn apart fresh handsOn again):=by
  refine returnsInHanded_of_calls own started noInit witness ?_;intro w tape i _ hsh _ hok hpre hholds;obtain ⟨_,_,_,fn',hfn',_,_,_,_,hval⟩:=hok;have e:fn'=fn:=Option.some.inj (hfn'.symm.trans hfn);subst e;obtain ⟨⟨⟨ds,gs,before,hw,hc⟩,hx⟩,hz⟩:=hpre;have hw':=DataW.Whole.of_heap (w':=w.forCall tape i) (by rfl) hw;refine (contract (w.forCall tape i) w.heap.size i.args ds gs before hval hw' hsh (hX _ _ _ (by rfl) hx)).mono fun e W' ⟨v,he,hp⟩=>?_
  subst he;exact ChangeSpec.post_blind hp
theorem Bp5 {H:Type} {enc:TypeId×Value→H} {P:Program} {f:Func} {s:ChangeSpec} {n:Nat} {shs:List Sh} {tb:TypeId} {F:FuncId} (hl:laidOutB P=true) (hsh:f.params.toList.mapM (shapeB P n)=some shs)
    (hp:f.params.toList.all (fun t=>P.readableRec t && decide (t < P.types.size))=true) (hr:f.resultTypes = #[tb]) (hb:P.underlying tb=some .bool) (hvars:s.vars=[])
    (hfn:∀ ds:List (DataW H),ds.length=f.params.toList.length→s.fn H (ds++[])={ results:=[.lit (.bool true)],args:=ds })
    {W:World} (walk:∀ vs:List Value,RdAll W shs vs→Calls P F vs.toArray W (Pure (.bool true) W)) {base:Nat} {args:Array Value} {ds gs:List (DataW H)} {before:List MemPlace} (hval:∀ (j:Nat) t v,f.params[j]? = some t→args[j]? = some v→Value.okWide P W .any base t v)
    (hW:DataW.Whole enc P f.params.toList s.vars false W args.toList ds gs before) :
    Calls P F args W fun e W'=>∃ v,e = .returned v∧s.post enc P f false true false false W args v W':=by
  have hW':=hW;obtain ⟨p,q,hA,hV,rfl,hfz,hnd⟩:=hW;rw [hvars] at hV;obtain ⟨rfl,rfl⟩:=trodVars_none hV;have hrd:RdAll W shs args.toList:=BQ6 hsh (fun j t v hj hv=>hval j t v (by simpa using hj) (by simpa using hv)) hA
  have hlen:ds.length=f.params.toList.length:=by
    clear hW' hval hrd hfn hp hsh hfz hnd hV
    generalize f.params.toList=ts at hA
    generalize args.toList=vs at hA
    induction ts generalizing vs ds p with
    | nil=>obtain ⟨_,rfl,_⟩:=trodAll_nil hA;rfl
    | cons t ts ih =>
      obtain ⟨v,vs',d,ds',p,q,rfl,rfl,rfl,h0,hr⟩:=trodAll_cons hA;simp [ih _ _ hr]
  refine (walk args.toList hrd).mono fun e W' ⟨he,hm⟩=>?_
  subst he;have bel:=hm.below;refine ⟨_,rfl,ds,[],p++[],[],p,[],hW',?_,?_,?_,bel.frame _,fun h=>by cases h⟩
  · rw [hfn ds hlen,hr]
    exact trodAll_mk1 (shut_bool hb _)
  · rw [hfn ds hlen]
    exact AM7 hl bel hp hA
  · rw [hvars,hfn ds hlen]
    rfl
theorem Bj2 {P:Program} {n nm:String} {d:DataW Unit} {r:List (String×DataW Unit)} {W:World} {g:Nat} {ti:TypeId} {ms:Array (String×TypeId)}
    (h:laidMet P ((n,.iface nm d)::r) W) (hg:P.globalNamed n=some g) (ht:(P.globals[g]?).map (·.type)=some ti) (hi:P.underlying ti=some (.interface ms)):∃ te pe,W.cell? ⟨g,0,none⟩=some (.iface te pe):=by
  obtain ⟨ps,⟨g0,t0,cs0,f0,p0,q0,hg0,ht0,hv0,hd0,_,e0⟩,_,hrows⟩:=h;obtain rfl:=Option.some.inj (hg.symm.trans hg0);obtain rfl:=Option.some.inj (ht.symm.trans ht0);obtain ⟨f',u,v,hcs,_,_⟩:=iface_of_trod hi hd0;have h1:=World.var?_cell hg0 hv0 0
  have e:cs0 = #[.iface u v]:=by
    obtain ⟨l⟩:=cs0;simp only at hcs
    rw [hcs]
  rw [e] at h1;exact ⟨u,v,by simpa using h1⟩
end Go.Eng
namespace Go.Proofs.YtnmkdiagbkkmaabGreatDoor
open Go Go.Eng Go.Dk Go.RowKit Go.Pw1 Go.Hp

abbrev laidL:List (String×DataW Unit):=[("math/bits.deBruijn32tab",Rows.laid_math_bits_deBruijn32tab),("math/bits.deBruijn64tab",Rows.laid_math_bits_deBruijn64tab),("internal/strconv.uint64pow10",Rows.laid_internal_strconv_uint64pow10),("unicode/utf8.acceptRanges",Rows.laid_unicode_utf8_acceptRanges),("strconv.ErrRange",Rows.laid_strconv_ErrRange),("strconv.ErrSyntax",Rows.laid_strconv_ErrSyntax),("unicode/utf8.first",Rows.laid_unicode_utf8_first)]
theorem Dv0:((begin Tryz.prog (fun _ _=>0) default).world.heap[0]?).bind Obj.row? = some (#[.int .i64 0],3):=by kernel_rfl
theorem Du1 {W:World} (hsh:W.ShapedOpen Tryz.prog) (hL:laidMetH Tryz.prog laidL W):Lw Tryz.prog W:=by
  rw [MakeChecks.laidMetH_plain _ _ _ (by kernel_rfl)] at hL;have h3:=hL.tail.tail;have h5:=h3.tail.tail;obtain ⟨te,pe,h1⟩:=Bj2 h5 (g:=3) (by kernel_rfl) (by kernel_rfl) Tryz.underlying79;obtain ⟨te2,pe2,h2⟩:=Bj2 h5.tail (g:=2) (by kernel_rfl) (by kernel_rfl) Tryz.underlying79
  exact ⟨cell_of_shapedOpen_int hsh (by decide) Dv0 rfl (by kernel_rfl) (by kernel_rfl) Tryz.underlying3,
    Lib.tabIs_of_head (g:=1) (t:=283) (n:=20) (e:=179) (by kernel_rfl) (by kernel_rfl) (by kernel_rfl) (by kernel_rfl) (by kernel_rfl) (by kernel_rfl) h3,
    ⟨_,h2,.inr ⟨_,_,rfl⟩⟩,⟨_,h1,.inr ⟨_,_,rfl⟩⟩⟩
theorem Cr8 (os:Os):(World.holding Tryz.prog os ⟨#[],#[],[]⟩).layFits Tryz.prog laidL []=true:=by kernel_rfl
theorem BI8 (os:Os):(World.holding Tryz.prog os ⟨#[],#[],[]⟩).layIfaces Tryz.prog laidL (World.laidAll Tryz.prog os laidL)=true:=by kernel_rfl
theorem Dl5 {w:World} {cs:List Value} (h:Rd w .str cs):∃ s:Str,cs=strC s:=by
  cases h with
  | @str v=>exact ⟨v.data.toList,rfl⟩
theorem CZ0 {w:World} {cs:List Value} (h:Rd w (.sl .str) cs):∃ (l:List Str) (q:Option Addr) (b o cap:Nat),cs=[Value.slice q l.length cap]∧Sl w q b o 1 (l.map strC):=by
  cases h with
  | slNil=>exact ⟨[],none,0,0,0,rfl,Sl.emp⟩
  | @sl _ ad cap2 _ hs hl hc hx =>
    obtain ⟨l,rfl⟩:=BG9 (f:=strC) (fun x hx'=>Dl5 (hx x hx'));exact ⟨l,some ad,_,_,cap2,by rw [List.length_map],hs⟩
end Go.Proofs.YtnmkdiagbkkmaabGreatDoor
namespace Go.Proofs.YtnmkdiagbkkmaabGreatDoor
open Go Go.Eng Go.Dk Go.RowKit Go.Pw1 Go.Hp

theorem Br8 (W:World) (vs:List Value) (hL:Lw Tryz.prog W) (h:RdAll W [cdSh,.sl .str] vs):Calls Tryz.prog 3 vs.toArray W (Pure (.bool true) W):=by
  cases h with
  | cons h1 h =>
  cases h with
  | cons h2 h =>
  cases h
  obtain ⟨c,q,b,o,cap,rfl,hp⟩:=Dt9 h1;obtain ⟨l,ql,bl,ol,cl,rfl,hl⟩:=CZ0 h2;have hq:q=none→cap=0:=fun h=>(hp.n h).2
  cases hf:farL c l with
  | true=>exact Cq6 c q b o cap hq l ql bl ol cl W hL hp.s hl hf
  | false =>
    cases hh:heavyC c with
    | true=>exact BI2 c q b o cap hq l ql bl ol cl W hL hp.s hl hf hh
    | false =>
      cases hc:cardIs c with
      | true=>exact CL4 c q b o cap hq l ql bl ol cl W hL hp.s hl hf hh hc
      | false=>exact CL5 c q b o cap hq l ql bl ol cl W hL hp.s hl hf hh hc
end Go.Proofs.YtnmkdiagbkkmaabGreatDoor
