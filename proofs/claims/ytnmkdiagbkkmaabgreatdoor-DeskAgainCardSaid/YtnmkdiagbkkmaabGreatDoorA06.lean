/- Walks of package desk: a script. Printed by mk_tc.py. -/
import Derived.Test.YtnmkdiagbkkmaabGreatDoorA05
import Derived.Test.YtnmkdiagbkkmaabGreatDoorProg
import Derived.Test.YtnmkdiagbkkmaabGreatDoorRows
import Derived.Lib.LaidTab
import Derived.Stop.LaidErr
import Derived.MakeChecks
import Derived.Shelf.Vars
import Derived.Handed
import Derived.HandedShaped
import Derived.Lay
set_option linter.unusedSimpArgs false
set_option linter.unusedVariables false
set_option linter.unusedSectionVars false
namespace Go.Dk
open Go Go.Eng Go.RowKit Go.Pw1 Go.Hp
section
variable {c:Cd} {s:Str}
theorem CI2 (h:131072 < s.length):runX c s=([],3):=by unfold runX;rw [if_pos h]
variable (hl:¬ 131072 < s.length)
include hl
theorem CI3 (h1:s ≠ []) (h:Lib.hasSuffix s [10]=false):runX c s=([],8):=by
  unfold runX;rw [if_neg hl,if_pos ⟨h1,fun h2=>by rw [(Aq8 s).2 h2] at h;cases h⟩]
theorem CX3 (h:s=[]∨s.getLast? = some 10) (hc:cardIs c=false):runX c s=([],1):=by
  unfold runX;rw [if_neg hl,if_neg (fun h2=>h.elim h2.1 h2.2),if_neg (by show ¬ cardIs c=true;rw [hc];decide)]
theorem Dj8 (h:s=[]∨s.getLast? = some 10) (hc:cardIs c=true):runX c s=((runL (bareC c) noBn ((linesL s).map trimL)).2,0):=by
  unfold runX;rw [if_neg hl,if_neg (fun h2=>h.elim h2.1 h2.2),if_pos (by exact hc),Cs1 h]
end
theorem Cz3 {s:Str} (h:¬ (s ≠ []∧Lib.hasSuffix s [10]=false)):s=[]∨s.getLast? = some 10:=by
  by_cases h0:s=[]
  · exact .inl h0
  · exact .inr ((Aq8 s).1 (by cases e:Lib.hasSuffix s [10] with
      | true=>rfl
      | false=>exact absurd ⟨h0,e⟩ h))
abbrev RuX:=DkX×Value×Eng.Own×Str
structure RuOk (c:Cd) (b7:Nat) (pre:List Str) (x:RuX):Prop where
  d:DkOk x.1
  p:BuP b7 x.2.1
  o:OwnOk 1 x.2.2.1 x.2.2.2.length (byc x.2.2.2)
  e:x.2.2.1=none∨x.2.2.2 ≠ []
  r:runL (bareC c) noBn (pre.map trimL)=(x.1.pl,x.2.2.2)
  n:x.2.2.2.length≤4001 * pre.length
theorem Co9 {x:Eng.Own} {l:Str} {xs:List Value} (ho:OwnOk 1 x l.length xs) (h:x=none∨l ≠ []):ownQ x=none∨ownC x ≠ 0:=by
  match x,h,ho with
  | none,_,_=>exact .inl rfl
  | some (b,c,r),h,ho =>
    refine .inr ?_;have h1:=List.length_pos_iff.2 (h.resolve_left (by simp));have h2:=(ho.cap b c r rfl).1
    show c ≠ 0
    omega
theorem CX2 (c:Cd) {d d':DkX} {l:List Str} {v:Str} {t r:Str} {e:Int} (h:runL c noBn l=(d.pl,t)) (hz:(d'.pl,r,e)=stepX c d.pl v):runL c noBn (l++[v])=(d'.pl,t++(echoX r e++[10])):=by
  rw [Bx8,h];dsimp only;rw [← hz]
end Go.Dk
namespace Go.Proofs.YtnmkdiagbkkmaabGreatDoor
open Go Go.Eng Go.Dk Go.RowKit Go.Pw1 Go.Hp

theorem BP9 (s:Str) (W:World):Calls Tryz.prog 51 #[.string (bs s)] W (News (fun b:Nat=>.func (.func 102) #[] #[pV b]) (fun b=>[(b,strO s)]) W):=by
  refine Aa0 Tryz.func51 rfl rfl ?_;refine st ?_;refine zn (New.box rfl) (fun b1=>?_)
  exact RunE.ret (chg:=[]) (.r1 rfl (.tmp rfl)) (fun _ hm=>⟨b1,rfl,hm.pick (.cons .here rfl .nil)⟩)
theorem CQ3 (c:Cd) (q:Option Addr) (b o cap:Nat) (s:Str) (W:World) (h:131072 < s.length):Calls Tryz.prog 23 #[c.v q cap,.string (bs s)] W (Pure (.tuple #[.string (bs (runX c s).1),.int .i64 (runX c s).2]) W):=by
  rw [CI2 h];refine Aa0 Tryz.func23 rfl rfl ?_;refine st ?_;refine zn (New.box rfl) (fun b2=>?_)
  refine lv (Ah2 rfl Ao2) ?_;refine RunC.cond rfl ?_ (fun h=>absurd h (by simp;omega))
  intro c0;clear c0;refine su ?_;exact Aa4 (.r2 rfl (.tmp rfl) (.tmp rfl)) (by first | rfl | simp)
theorem CQ4 (c:Cd) (q:Option Addr) (b o cap:Nat) (s:Str) (W:World) (hl:¬ 131072 < s.length) (h1:s ≠ []) (hf:Lib.hasSuffix s [10]=false):Calls Tryz.prog 23 #[c.v q cap,.string (bs s)] W (Pure (.tuple #[.string (bs (runX c s).1),.int .i64 (runX c s).2]) W):=by
  rw [CI3 hl h1 hf];refine Aa0 Tryz.func23 rfl rfl ?_;refine st ?_;refine zn (New.box rfl) (fun b2=>?_)
  refine lv (Ah2 rfl Ao2) ?_;refine RunC.cond rfl (fun h=>absurd h (by simp;omega)) ?_;intro c0;clear c0;refine st ?_;refine lv (Ap1 rfl rfl) ?_
  refine Ab3 (dj:=18) (dp:=22) 4 rfl (fun g18=>by
    have g18':=g18;try simp only [nH] at g18'
    refine st ?_;refine Ab9 (zF rfl Cw7) rfl rfl rfl (fun w hm=>(Ax1 s [10] (by omega) w)) ?_;refine sv ?_;exact zs g18
  ) (fun g18=>by
    have g18':=g18;try simp only [nH] at g18'
    iterate 3 refine Ac0 rfl rfl rfl ?_
    refine sv ?_;exact zs g18
  ) ?_
  refine st ?_;refine RunC.cond rfl ?_ (fun h=>absurd h (by simp [hf,h1]))
  intro c1;clear c1;refine su ?_;exact Aa4 (.r2 rfl (.tmp rfl) (.tmp rfl)) (by first | rfl | simp)
theorem Dh1 (c:Cd) (q:Option Addr) (b o cap:Nat) (s:Str) (W:World) (hS:Sl W q b o 9 (c.p.things.map Th.cells)) (hq:q=none→cap=0) (hl:c.p.things.length≤1000) (hL:Lw Tryz.prog W) (hs0:¬ 131072 < s.length) (h:s=[]∨s.getLast? = some 10) (hc:cardIs c=false):Calls Tryz.prog 23 #[c.v q cap,.string (bs s)] W (Pure (.tuple #[.string (bs (runX c s).1),.int .i64 (runX c s).2]) W):=by
  rw [CX3 hs0 h hc];have hsx:s ≠ []→Lib.hasSuffix s [10]=true:=fun h1=>(Aq8 s).2 (h.resolve_left h1)
  refine Aa0 Tryz.func23 rfl rfl ?_;refine st ?_;refine zn (New.box rfl) (fun b2=>?_)
  refine lv (Ah2 rfl Ao2) ?_;refine RunC.cond rfl (fun h=>absurd h (by simp;omega)) ?_;intro c0;clear c0;refine st ?_;refine lv (Ap1 rfl rfl) ?_
  refine Ab3 (dj:=18) (dp:=22) 4 rfl (fun g18=>by
    have g18':=g18;try simp only [nH] at g18'
    refine st ?_;refine Ab9 (zF rfl Cw7) rfl rfl rfl (fun w hm=>(Ax1 s [10] (by omega) w)) ?_;refine sv ?_;exact zs g18
  ) (fun g18=>by
    have g18':=g18;try simp only [nH] at g18'
    iterate 3 refine Ac0 rfl rfl rfl ?_
    refine sv ?_;exact zs g18
  ) ?_
  refine st ?_;refine RunC.cond rfl (fun h=>absurd h (by simp;exact hsx)) ?_;intro c1;clear c1;refine su ?_;refine zc (zF rfl BV2) (fun w hm=>(CU6 c q b o cap w (hS.mono (by decide) hm (by simp)) hq hl hc)) ?_;refine zn (New.alloc Ch5) (fun b6=>?_)
  refine Ab1 (Sto.store rfl rfl .here BY1 rfl rfl) rfl rfl ?_;refine st ?_;refine RunC.cond rfl ?_ (fun h=>absurd h (by simp))
  intro c2;clear c2;refine su ?_;exact Aa4 (.r2 rfl (.tmp rfl) (.tmp rfl)) (by first | rfl | simp)
set_option maxHeartbeats 2000000 in
theorem Dr8 (c:Cd) (q:Option Addr) (b o cap:Nat) (s:Str) (W:World) (hS:Sl W q b o 9 (c.p.things.map Th.cells)) (hq:q=none→cap=0) (hl:c.p.things.length≤1000) (hL:Lw Tryz.prog W) (hsl:s.length≤100000) (h:s=[]∨s.getLast? = some 10) (hc:cardIs c=true):Calls Tryz.prog 23 #[c.v q cap,.string (bs s)] W (Pure (.tuple #[.string (bs (runX c s).1),.int .i64 (runX c s).2]) W):=by
  rw [Dj8 (by omega) h hc];have hsx:s ≠ []→Lib.hasSuffix s [10]=true:=fun h1=>(Aq8 s).2 (h.resolve_left h1)
  have hll:=Bl2 s;refine AF0 (Mem.refl W) Tryz.func23 rfl rfl ?_;refine RunCF.seq ?_;refine Ak7 ?_;refine st ?_;refine zn (New.box rfl) (fun b2=>?_)
  refine RunEF.next ?_;refine RunCF.seq ?_;refine RunCF.block ?_;refine RunCF.seq ?_;refine Ak7 ?_;refine st ?_;refine lv (Ah2 rfl Ao2) ?_;refine RunEF.next ?_;refine Ak7 ?_;refine RunC.cond rfl (fun h=>absurd h (by simp;omega)) ?_;intro c0;clear c0;refine st ?_;refine lv (Ap1 rfl rfl) ?_
  refine Ab3 (dj:=18) (dp:=22) 4 rfl (fun g18=>by
    have g18':=g18;try simp only [nH] at g18'
    refine st ?_;refine Ab9 (zF rfl Cw7) rfl rfl rfl (fun w hm=>(Ax1 s [10] (by omega) w)) ?_;refine sv ?_;exact zs g18
  ) (fun g18=>by
    have g18':=g18;try simp only [nH] at g18'
    iterate 3 refine Ac0 rfl rfl rfl ?_
    refine sv ?_;exact zs g18
  ) ?_
  refine st ?_;refine RunC.cond rfl (fun h=>absurd h (by simp;exact hsx)) ?_;intro c1;clear c1;refine st ?_;refine RunEF.next ?_;refine RunCF.seq ?_;refine Ak7 ?_;refine su ?_;refine Ag1 (zF rfl BV2) rfl rfl rfl (fun w hm=>(CU5 c q b o cap w (hS.mono (by decide) hm (by simp)) hq hl hc)) (fun b25=>?_)
  refine st ?_;refine zn (New.alloc Ch5) (fun b6=>?_)
  refine Ab1 (Sto.store rfl rfl .here BY1 rfl rfl) rfl rfl ?_;refine st ?_;refine RunEF.next ?_;refine RunCF.seq ?_;refine RunCF.seq ?_;refine Ak7 ?_;refine st ?_;refine RunEF.next ?_;refine Ak7 ?_;refine RunC.cond rfl (fun h=>absurd h (by simp)) ?_;intro c2;clear c2;refine st ?_;refine RunEF.next ?_;refine RunCF.seq ?_;refine Ak7 ?_;refine st ?_;refine zn (New.alloc BG5) (fun b7=>?_)
  refine RunEF.next ?_;refine RunCF.seq ?_;refine RunCF.seq ?_;refine Ak7 ?_;refine st ?_;refine Ag1 (zF rfl Do9) rfl rfl rfl (fun w hm=>(BP9 s w)) (fun b32=>?_)
  refine st ?_;refine RunEF.next ?_;refine RunCF.block ?_;refine RunCF.range Tryz.func23 (α:=Str) (X:=RuX) (enc:=fun x=>.string (bs x)) (eb:=fun _=>[]) (itb:=[(b32,strO s)]) (mis:=dmis) (S:=fun xs=>xs=linesL s) (Sp:=fun xs=>xs <+: linesL s) (Sq:=fun _ _=>False) (N:=s.length + 1) (fun x=>(b6,.cells (cellsL (pV b25)).toArray 33 (0,0))::(b25,dkO x.1 c)::(b7,buO x.2.1 x.2.2.1 x.2.2.2.length)::(dkB x.1++ownB 5 x.2.2.1 (byc x.2.2.2))) (fun pre x=>RuOk c b7 pre x) (fun _ _=>False) (fun _ _=>False) (noDk,.pointer none,none,[]) ⟨Cq7,.inl rfl,OwnOk.start,.inl rfl,rfl,Nat.zero_le _⟩ ([]) (.cons (.there (.there .here)) rfl (.cons (.there (.there .here)) rfl (.cons (.there .here) rfl (.cons .here rfl .nil)))) rfl Dg0 (CZ2 s hsl b32 W) rfl rfl (fun _=>rfl) rfl rfl rfl ?_ ?_ ?_ ?_ ?_
  ·intro l D ob pre v x tl hI hsp hlen
   obtain ⟨xd,xp,xo,xl⟩:=x;obtain ⟨hxd,hxp,hxo,hxe,hxr,hxn⟩:=hI;dsimp only at hxd hxp hxo hxe hxr hxn ⊢;have hvl:v.length≤s.length:=AT5 s v (hsp.subset (by simp));have hpl:pre.length≤s.length:=by (have:=hsp.length_le;simp only [List.length_append,List.length_singleton] at this;omega)
   refine Bo2 (Ac1 _) (news':=(l,ob)::(D,dfrO)::(b6,.cells (cellsL (pV b25)).toArray 33 (0,0))::(b25,dkO xd c)::(b7,buO xp xo xl.length)::(dkB xd++(ownB 5 xo (byc xl)++(tl++[])))) (Pick.cnt fun x=>by simp only [nC,List.length_append,List.length_singleton,List.map_cons,List.map_nil,buB,dfrO,markB,dkM];omega) ?_;refine RunCR.block ?_;refine RunCR.seq ?_;refine Cg9 8 Ai6 (.cons .here rfl (.cons .here rfl (.cons .here rfl (.cons (.there .here) rfl .nil)))) ?_;refine zw 0 ?_;refine zw 1 ?_;refine zA 2 ?_;refine Ab4 rfl (zF rfl Do8) rfl rfl rfl (fun w hm=>(AV0 v [10] (by omega) w)) (Aa3 (.cons .here rfl (.cons .here rfl (.cons .here rfl (.cons (.there .here) rfl .nil)))) (.cons .here rfl (.cons .here rfl (.cons .here rfl (.cons .here rfl .nil)))) rfl ?_)
   refine zA 3 ?_;refine AC4 rfl (zF rfl BV0) rfl rfl rfl (fun w hm=>(As2 (nw':=fun z:DkX×Str×Int=>(l,ob)::(D,dfrO)::(b6,.cells (cellsL (pV b25)).toArray 33 (0,0))::(b25,dkO z.1 c)::(b7,buO xp xo xl.length)::(dkB z.1++(ownB 5 xo (byc xl)++(tl++[])))) (AK6 (trimL v) (by have:=CG1 v;unfold trimL;omega) b25 xd c ((l,ob)::(D,dfrO)::(b6,.cells (cellsL (pV b25)).toArray 33 (0,0))::(b7,buO xp xo xl.length)::(ownB 5 xo (byc xl)++tl)) W w hL hxd (hm.pick (Pick.cnt fun x=>by simp only [nC,List.length_append,List.length_singleton,List.map_cons,List.map_nil,buB,dfrO,markB,dkM];omega))) (fun _=>(Pick.cnt fun x=>by simp only [nC,List.length_append,List.length_singleton,List.map_cons,List.map_nil,buB,dfrO,markB,dkM];omega)))) (fun z38 hz38=>(Aa3 (.cons .here rfl (.cons .here rfl (.cons .here rfl (.cons (.there .here) rfl .nil)))) (.cons .here rfl (.cons .here rfl (.cons .here rfl (.cons .here rfl .nil)))) rfl ?_))
   obtain ⟨hzd,hzs⟩:=hz38;have hrn:=CX2 (bareC c) hxr hzs;have hcod:Cod z38.2.2:=(by have h2:=Bp9 hxd.sm (bareC c) (trimL v);rw [← hzs] at h2;exact h2);have he38:(echoX z38.2.1 z38.2.2).length≤4000:=(by have h1:=BR5 hxd.sm (bareC c) (trimL v);rw [← hzs] at h1;exact BV3 h1 hcod);refine zw 4 ?_;refine zw 5 ?_;refine zw 6 ?_;refine zw 7 ?_;refine zt ?_;refine zp 8 ?_;refine zd ?_;refine RunER.next ?_;refine RunCR.seq ?_;refine RunCR.seq ?_;refine Ac5 ?_;refine st ?_;refine RunER.next ?_;refine RunCR.cond rfl ?_ ?_
   ·intro c3
    have c3':=c3;clear c3;try simp only [nH] at c3'
    have hec:echoX z38.2.1 z38.2.2=sayX wError [z38.2.2]:=by (unfold echoX;rw [if_neg (by simpa using c3')])
    rw [hec] at he38 hrn;refine Ac5 ?_;refine lv (Val.makeInterface rfl Ap8) ?_;refine lv (Val.makeInterface rfl Au7) ?_;refine zn (New.buildSlice (parts:=[(0,.tmp 43),(1,.tmp 45)]) rfl Ap4 Am1 rfl rfl rfl rfl) (fun b46=>?_)
    refine zc (zF rfl Au8) (fun w hm=>Ag5 [.s wError,.n z38.2.2] _ (Am9 wError [_]) b46 w (hL.mono hm) (hm.at (.head _)) (by simp) (by intro p hp;simp only [List.mem_cons,List.not_mem_nil,or_false] at hp;rcases hp with rfl | rfl;exact (show wError.length≤40 by decide);exact hcod.in64) (by simp [Prt.words])) ?_;refine RunER.next ?_;refine Ac5 ?_;refine st ?_;refine lv (Ar2 rfl rfl (by simp;omega)) ?_;refine Aj9 (zF rfl BU9) rfl rfl rfl (fun w hm=>(As2 (nw':=fun y:Eng.Own=>(l,ob)::(D,dfrO)::(b6,.cells (cellsL (pV b25)).toArray 33 (0,0))::(b25,dkO z38.1 c)::(b7,buO (buS b7) y (xl++(sayX wError [z38.2.2]++[10])).length)::(dkB z38.1++(ownB 5 y (byc (xl++(sayX wError [z38.2.2]++[10])))++(tl++[])))) (Az4 b7 xp xo xl (sayX wError [z38.2.2]++[10]) ((l,ob)::(D,dfrO)::(b6,.cells (cellsL (pV b25)).toArray 33 (0,0))::(b25,dkO z38.1 c)::(dkB z38.1++tl)) W w (hm.pick (Pick.cnt fun x=>by simp only [nC,List.length_append,List.length_singleton,List.map_cons,List.map_nil,buB,dfrO,markB,dkM];omega)) hxp hxo (by simp only [List.length_append,List.length_singleton];omega)) (fun _=>(Pick.cnt fun x=>by simp only [nC,List.length_append,List.length_singleton,List.map_cons,List.map_nil,buB,dfrO,markB,dkM];omega)))) (fun z50 hz50=>?_)
    skip
    refine st ?_;exact AS5 (z38.1,buS b7,z50,xl++(sayX wError [z38.2.2]++[10])) ⟨hzd,.inr rfl,hz50,.inr (by simp),by rw [List.map_append];exact hrn,by simp only [List.length_append,List.length_singleton];omega⟩ (Pick.cnt fun x=>by simp only [nC,List.length_append,List.length_singleton,List.map_cons,List.map_nil,buB,dfrO,markB,dkM];omega)
   intro c3;have c3':=c3;clear c3;try simp only [nH] at c3'
   have hec:echoX z38.2.1 z38.2.2=z38.2.1:=by (unfold echoX;rw [if_pos (by simpa using c3')])
   rw [hec] at he38 hrn;refine RunCR.skip ?_;refine RunER.next ?_;refine Ac5 ?_;refine st ?_;refine lv (Ar2 rfl rfl (by simp;omega)) ?_;refine Aj9 (zF rfl BU9) rfl rfl rfl (fun w hm=>(As2 (nw':=fun y:Eng.Own=>(l,ob)::(D,dfrO)::(b6,.cells (cellsL (pV b25)).toArray 33 (0,0))::(b25,dkO z38.1 c)::(b7,buO (buS b7) y (xl++(z38.2.1++[10])).length)::(dkB z38.1++(ownB 5 y (byc (xl++(z38.2.1++[10])))++(tl++[])))) (Az4 b7 xp xo xl (z38.2.1++[10]) ((l,ob)::(D,dfrO)::(b6,.cells (cellsL (pV b25)).toArray 33 (0,0))::(b25,dkO z38.1 c)::(dkB z38.1++tl)) W w (hm.pick (Pick.cnt fun x=>by simp only [nC,List.length_append,List.length_singleton,List.map_cons,List.map_nil,buB,dfrO,markB,dkM];omega)) hxp hxo (by simp only [List.length_append,List.length_singleton];omega)) (fun _=>(Pick.cnt fun x=>by simp only [nC,List.length_append,List.length_singleton,List.map_cons,List.map_nil,buB,dfrO,markB,dkM];omega)))) (fun z50 hz50=>?_)
   skip
   refine st ?_;exact AS5 (z38.1,buS b7,z50,xl++(z38.2.1++[10])) ⟨hzd,.inr rfl,hz50,.inr (by simp),by rw [List.map_append];exact hrn,by simp only [List.length_append,List.length_singleton];omega⟩ (Pick.cnt fun x=>by simp only [nC,List.length_append,List.length_singleton,List.map_cons,List.map_nil,buB,dfrO,markB,dkM];omega)
  ·intro D xs x hS hI
   obtain ⟨xd,xp,xo,xl⟩:=x;obtain ⟨hxd,hxp,hxo,hxe,hxr,hxn⟩:=hI;dsimp only at hxd hxp hxo hxe hxr hxn ⊢;subst hS;refine Am8 (Ac1 _) (news':=(D,dfrO)::(b6,.cells (cellsL (pV b25)).toArray 33 (0,0))::(b25,dkO xd c)::(b7,buO xp xo xl.length)::(dkB xd++(ownB 5 xo (byc xl)++[]))) (Pick.cnt fun x=>by simp only [nC,List.length_append,List.length_singleton,List.map_cons,List.map_nil,buB,dfrO,markB,dkM];omega) ?_;refine st ?_;refine RunEF.next ?_;refine RunCF.seq ?_;refine Ak7 ?_;refine st ?_;refine Aj9 (zF rfl BC9) rfl rfl rfl (fun w hm=>(Cf7 b7 xp xo xl ((D,dfrO)::[]) W w (hm.pick (Pick.cnt fun x=>by simp only [nC,List.length_append,List.length_singleton,List.map_cons,List.map_nil,buB,dfrO,markB,dkM];omega)) hxo (Co9 hxo hxe))) (fun z51 hz51=>?_)
   skip
   refine st ?_;refine RunEF.next ?_;refine Ak7 ?_;refine RunC.ret ?_;exact Aq2 (news2:=[]) [D] (Pick.cnt fun x=>by simp only [nC,List.length_append,List.length_singleton,List.map_cons,List.map_nil,buB,dfrO,markB,dkM];omega) (.r2 rfl (.tmp rfl) (.tmp rfl)) (fun w hm=>⟨by rw [hxr],hm⟩)
  ·intro D c x hst
   exact hst.elim
  ·intro D c x hp
   exact hp.elim
  intro D k xs x hq hI;exact hq.elim
end Go.Proofs.YtnmkdiagbkkmaabGreatDoor
namespace Go.Dk
open Go Go.Eng Go.Pw1 Go.Hp
def cE:Cd:=⟨⟨⟨9000,9000⟩,⟨65,66⟩,5,2000,100000,[]⟩,3200,50,20,⟨6000,6500⟩,300,900,100,200⟩
theorem Cs7 {c:Cd} {b:Bn} {s:Str} {ws:List Str} (hl:s.length≤200) (h:wordsX s=some (wDeep::ws)) (hn:numsX ws=some [0]) (hr:0 < b.views.length):lineX c b s=deepD c b 0 :=
  AG8 hl h (by decide) (by decide) (show verbX wDeep=some ⟨1,true,fun c b n=>deepD c b (N n 0)⟩ from rfl) hn rfl (fun _=>hr)
theorem Ai1 {c:Cd} {b b' b2:Bn} {s r t:Str} {e:Int} {l:List Str} (h:stepX c b s=(b',r,e)) (h2:runL c b' l=(b2,t)):runL c b (s::l)=(b2,echoX r e++10::t):=by
  unfold runL;rw [h];dsimp only;rw [h2]
def eB0:Bn:=⟨[],⟨[],[]⟩⟩
def eB1:Bn:=⟨[⟨⟨⟨9000,9000⟩,⟨65,66⟩,5,2000,100000,[]⟩,⟨0,0,0,0⟩,false⟩],⟨[],[]⟩⟩
def eB2:Bn:=⟨[⟨⟨⟨9000,9000⟩,⟨65,66⟩,5,2000,100000,[⟨⟨1100,1101⟩,⟨0,0⟩,⟨904,905⟩,⟨0,0⟩,0⟩]⟩,⟨0,0,0,0⟩,false⟩],⟨[],[]⟩⟩
def eB3:Bn:=⟨[⟨⟨⟨9000,9000⟩,⟨65,66⟩,5,2000,100000,[⟨⟨1100,1101⟩,⟨0,0⟩,⟨904,905⟩,⟨0,0⟩,3000⟩]⟩,⟨0,0,0,0⟩,false⟩],⟨[],[]⟩⟩
def eB4:Bn:=⟨[⟨⟨⟨9000,9000⟩,⟨65,66⟩,5,2000,100000,[⟨⟨1100,1101⟩,⟨0,0⟩,⟨904,905⟩,⟨0,0⟩,3000⟩,⟨⟨1050,1050⟩,⟨0,0⟩,⟨990,992⟩,⟨0,0⟩,0⟩]⟩,⟨0,0,0,0⟩,false⟩],⟨[],[]⟩⟩
def eB5:Bn:=⟨[⟨⟨⟨9000,9000⟩,⟨65,66⟩,5,2000,100000,[⟨⟨1100,1101⟩,⟨0,0⟩,⟨904,905⟩,⟨0,0⟩,3000⟩,⟨⟨1050,1050⟩,⟨0,0⟩,⟨990,992⟩,⟨0,0⟩,0⟩]⟩,⟨0,0,0,0⟩,false⟩],⟨[],[]⟩⟩
def eB6:Bn:=⟨[⟨⟨⟨9000,9000⟩,⟨65,66⟩,5,2000,100000,[⟨⟨1100,1101⟩,⟨0,0⟩,⟨904,905⟩,⟨0,0⟩,3000⟩,⟨⟨1050,1050⟩,⟨0,0⟩,⟨990,992⟩,⟨0,0⟩,0⟩,⟨⟨1000,1002⟩,⟨0,0⟩,⟨1005,1006⟩,⟨0,0⟩,0⟩]⟩,⟨0,0,0,0⟩,false⟩],⟨[],[]⟩⟩
def eB7:Bn:=⟨[⟨⟨⟨9000,9000⟩,⟨65,66⟩,5,2000,100000,[⟨⟨1100,1101⟩,⟨0,0⟩,⟨904,905⟩,⟨0,0⟩,3000⟩,⟨⟨1050,1050⟩,⟨0,0⟩,⟨990,992⟩,⟨0,0⟩,0⟩,⟨⟨1000,1002⟩,⟨0,0⟩,⟨1005,1006⟩,⟨0,0⟩,0⟩]⟩,⟨0,0,0,0⟩,false⟩],⟨[],[]⟩⟩
def eB8:Bn:=⟨[⟨⟨⟨9000,9000⟩,⟨65,66⟩,5,2000,100000,[⟨⟨1100,1101⟩,⟨0,0⟩,⟨904,905⟩,⟨0,0⟩,3000⟩,⟨⟨1050,1050⟩,⟨0,0⟩,⟨990,992⟩,⟨0,0⟩,0⟩,⟨⟨1000,1002⟩,⟨0,0⟩,⟨1005,1006⟩,⟨0,0⟩,0⟩]⟩,⟨0,0,0,0⟩,false⟩],⟨[],[]⟩⟩
def eB9:Bn:=⟨[⟨⟨⟨9000,9000⟩,⟨65,66⟩,5,2000,100000,[⟨⟨1100,1101⟩,⟨0,0⟩,⟨904,905⟩,⟨0,0⟩,3000⟩,⟨⟨1050,1050⟩,⟨0,0⟩,⟨990,992⟩,⟨0,0⟩,0⟩,⟨⟨1000,1002⟩,⟨0,0⟩,⟨1005,1006⟩,⟨0,0⟩,0⟩]⟩,⟨2,1,0,3⟩,true⟩],⟨[],[]⟩⟩
def eB10:Bn:=⟨[⟨⟨⟨9000,9000⟩,⟨65,66⟩,5,2000,100000,[⟨⟨1100,1101⟩,⟨0,0⟩,⟨904,905⟩,⟨0,0⟩,3000⟩,⟨⟨1050,1050⟩,⟨0,0⟩,⟨990,992⟩,⟨0,0⟩,0⟩,⟨⟨1000,1002⟩,⟨0,0⟩,⟨1005,1006⟩,⟨0,0⟩,0⟩]⟩,⟨2,1,0,3⟩,true⟩],⟨[],[]⟩⟩
def eB11:Bn:=⟨[⟨⟨⟨9000,9000⟩,⟨65,66⟩,5,2000,100000,[⟨⟨1100,1101⟩,⟨0,0⟩,⟨904,905⟩,⟨0,0⟩,3000⟩,⟨⟨1050,1050⟩,⟨0,0⟩,⟨990,992⟩,⟨0,0⟩,0⟩,⟨⟨1000,1002⟩,⟨0,0⟩,⟨1005,1006⟩,⟨0,0⟩,0⟩]⟩,⟨2,1,0,3⟩,true⟩],⟨[],[]⟩⟩
def eB12:Bn:=⟨[⟨⟨⟨9000,9000⟩,⟨65,66⟩,5,2000,100000,[⟨⟨1100,1101⟩,⟨0,0⟩,⟨904,905⟩,⟨0,0⟩,3000⟩,⟨⟨1050,1050⟩,⟨0,0⟩,⟨990,992⟩,⟨0,0⟩,0⟩,⟨⟨1000,1002⟩,⟨0,0⟩,⟨1005,1006⟩,⟨0,0⟩,0⟩]⟩,⟨2,1,0,3⟩,true⟩],⟨[⟨1,[[102,97,108,108,115],[109,105,108,108],[112,97,115,115]]⟩],[]⟩⟩
def eB13:Bn:=⟨[⟨⟨⟨9000,9000⟩,⟨65,66⟩,5,2000,100000,[⟨⟨1100,1101⟩,⟨0,0⟩,⟨904,905⟩,⟨0,0⟩,3000⟩,⟨⟨1050,1050⟩,⟨0,0⟩,⟨990,992⟩,⟨0,0⟩,0⟩,⟨⟨1000,1002⟩,⟨0,0⟩,⟨1005,1006⟩,⟨0,0⟩,0⟩]⟩,⟨2,1,0,3⟩,true⟩],⟨[⟨1,[[102,97,108,108,115],[109,105,108,108],[112,97,115,115]]⟩,⟨2,[[109,105,108,108],[108,97,107,101]]⟩],[]⟩⟩
def eB14:Bn:=⟨[⟨⟨⟨9000,9000⟩,⟨65,66⟩,5,2000,100000,[⟨⟨1100,1101⟩,⟨0,0⟩,⟨904,905⟩,⟨0,0⟩,3000⟩,⟨⟨1050,1050⟩,⟨0,0⟩,⟨990,992⟩,⟨0,0⟩,0⟩,⟨⟨1000,1002⟩,⟨0,0⟩,⟨1005,1006⟩,⟨0,0⟩,0⟩]⟩,⟨2,1,0,3⟩,true⟩],⟨[⟨1,[[102,97,108,108,115],[109,105,108,108],[112,97,115,115]]⟩,⟨2,[[109,105,108,108],[108,97,107,101]]⟩],[⟨0,[63],[109,105,42]⟩]⟩⟩
def eB15:Bn:=⟨[⟨⟨⟨9000,9000⟩,⟨65,66⟩,5,2000,100000,[⟨⟨1100,1101⟩,⟨0,0⟩,⟨904,905⟩,⟨0,0⟩,3000⟩,⟨⟨1050,1050⟩,⟨0,0⟩,⟨990,992⟩,⟨0,0⟩,0⟩,⟨⟨1000,1002⟩,⟨0,0⟩,⟨1005,1006⟩,⟨0,0⟩,0⟩]⟩,⟨2,1,0,3⟩,true⟩],⟨[⟨1,[[102,97,108,108,115],[109,105,108,108],[112,97,115,115]]⟩,⟨2,[[109,105,108,108],[108,97,107,101]]⟩],[⟨0,[63],[109,105,42]⟩,⟨2,[42],[109,105,108,108]⟩]⟩⟩
def eB16:Bn:=⟨[⟨⟨⟨9000,9000⟩,⟨65,66⟩,5,2000,100000,[⟨⟨1100,1101⟩,⟨0,0⟩,⟨904,905⟩,⟨0,0⟩,3000⟩,⟨⟨1050,1050⟩,⟨0,0⟩,⟨990,992⟩,⟨0,0⟩,0⟩,⟨⟨1000,1002⟩,⟨0,0⟩,⟨1005,1006⟩,⟨0,0⟩,0⟩]⟩,⟨2,1,0,3⟩,true⟩],⟨[⟨1,[[102,97,108,108,115],[109,105,108,108],[112,97,115,115]]⟩,⟨2,[[109,105,108,108],[108,97,107,101]]⟩],[⟨0,[63],[109,105,42]⟩,⟨2,[42],[109,105,108,108]⟩]⟩⟩
theorem eS0:stepX cE eB0 [118,105,101,119]=(eB1,[118,105,101,119,32,48],0):=by kernel_rfl
theorem eS1:stepX cE eB1 [116,104,105,110,103,32,48,32,49,49,48,48,32,49,49,48,49,32,57,48,52,32,57,48,53]=(eB2,[116,104,105,110,103,32,48,32,48],0):=by kernel_rfl
theorem eS2:stepX cE eB2 [109,97,114,107,32,48,32,48,32,51,48,48,48]=(eB3,[109,97,114,107,32,53,56,53,48,48,48,32,53,57,51,57,57,57],0):=by kernel_rfl
theorem eS3:stepX cE eB3 [116,104,105,110,103,32,48,32,49,48,53,48,32,49,48,53,48,32,57,57,48,32,57,57,50]=(eB4,[116,104,105,110,103,32,49,32,48],0):=by kernel_rfl
theorem eS4:stepX cE eB4 [102,97,114,32,48,32,49]=(eB5,[102,97,114,32,57,53,57,49,32,49,48,50,52,49],0):=by kernel_rfl
theorem eS5:stepX cE eB5 [116,104,105,110,103,32,48,32,49,48,48,48,32,49,48,48,50,32,49,48,48,53,32,49,48,48,54]=(eB6,[116,104,105,110,103,32,50,32,50],0):=by kernel_rfl
theorem eS6:stepX cE eB6 [109,111,118,101,100,32,48]=(eB7,[109,111,118,101,100,32,52],0):=by kernel_rfl
theorem eS7:stepX cE eB7 [109,97,114,107,32,48,32,49,32,52,48,48,48]=(eB8,[],4):=by kernel_rfl
theorem eS8:stepX cE eB8 [116,114,105,109,32,48]=(eB9,[116,114,105,109,32,50,32,49,32,48,32,51],0):=by kernel_rfl
theorem eS9:stepX cE eB9 [116,104,105,110,103,32,48,32,48,32,48,32,48,32,48]=(eB10,[],6):=by kernel_rfl
theorem eDl:lineX cE eB10 [100,101,101,112,32,48]=deepD cE eB10 0:=Cs7 (by decide) (show wordsX [100,101,101,112,32,48]=some (wDeep::[[48]]) by kernel_rfl) (show numsX [[48]]=some [0] by kernel_rfl) (by decide)
theorem CO8 {c:Cd} {b:Bn} {i:Nat} {v:Vw} {x y:Int} (hv:b.views.getD i noVw=v) (hu:v.up=true) (h:depthsX (cardV c v) v.cuts=((x,y),0)):deepD c b i = .ok (b,sayX wDeep [x,y]):=by
  unfold deepD;dsimp only;rw [hv,if_neg (by rw [hu];decide),h];rfl
def eV:Vw:=⟨⟨⟨9000,9000⟩,⟨65,66⟩,5,2000,100000,[⟨⟨1100,1101⟩,⟨0,0⟩,⟨904,905⟩,⟨0,0⟩,3000⟩,⟨⟨1050,1050⟩,⟨0,0⟩,⟨990,992⟩,⟨0,0⟩,0⟩,⟨⟨1000,1002⟩,⟨0,0⟩,⟨1005,1006⟩,⟨0,0⟩,0⟩]⟩,⟨2,1,0,3⟩,true⟩
theorem eD4:depthsX (cardV cE eV) eV.cuts=((2956,11700),0):=by rw [BN6];kernel_rfl
theorem eD5:deepD cE eB10 0 = .ok (eB10,sayX wDeep [2956,11700]):=CO8 (v:=eV) rfl rfl eD4
theorem eD6:sayX wDeep [2956,11700]=[100,101,101,112,32,50,57,53,54,32,49,49,55,48,48]:=by kernel_rfl
theorem CW2 {c:Cd} {b b':Bn} {s r:Str} (h:lineX c b s = .ok (b',r)):stepX c b s=(b',r,0):=by unfold stepX;rw [h]
theorem Du3:stepX cE eB10 [100,101,101,112,32,48]=(eB11,[100,101,101,112,32,50,57,53,54,32,49,49,55,48,48],0):=CW2 (by rw [eDl,eD5,eD6];rfl)
theorem Du2:stepX cE eB11 [98,111,120,32,49,32,102,97,108,108,115,32,109,105,108,108,32,112,97,115,115]=(eB12,[98,111,120,32,48],0):=by kernel_rfl
theorem Du1:stepX cE eB12 [98,111,120,32,50,32,109,105,108,108,32,108,97,107,101]=(eB13,[98,111,120,32,49],0):=by kernel_rfl
theorem Du0:stepX cE eB13 [99,97,114,100,32,48,32,63,32,109,105,42]=(eB14,[99,97,114,100,32,48],0):=by kernel_rfl
theorem Dt9:stepX cE eB14 [99,97,114,100,32,50,32,42,32,109,105,108,108]=(eB15,[99,97,114,100,32,49,32,105,115,32,48,32,49,32,105,115,32,49,32,51],0):=by kernel_rfl
theorem Dt8:stepX cE eB15 [119,104,105,99,104,32,48]=(eB16,[119,104,105,99,104,32,49],0):=by kernel_rfl
def eScript:Str:=[118,105,101,119,10,116,104,105,110,103,32,48,32,49,49,48,48,32,49,49,48,49,32,57,48,52,32,57,48,53,10,109,97,114,107,32,48,32,48,32,51,48,48,48,10,116,104,105,110,103,32,48,32,49,48,53,48,32,49,48,53,48,32,57,57,48,32,57,57,50,10,102,97,114,32,48,32,49,10,116,104,105,110,103,32,48,32,49,48,48,48,32,49,48,48,50,32,49,48,48,53,32,49,48,48,54,10,109,111,118,101,100,32,48,10,109,97,114,107,32,48,32,49,32,52,48,48,48,10,116,114,105,109,32,48,10,116,104,105,110,103,32,48,32,48,32,48,32,48,32,48,10,100,101,101,112,32,48,10,98,111,120,32,49,32,102,97,108,108,115,32,109,105,108,108,32,112,97,115,115,10,98,111,120,32,50,32,109,105,108,108,32,108,97,107,101,10,99,97,114,100,32,48,32,63,32,109,105,42,10,99,97,114,100,32,50,32,42,32,109,105,108,108,10,119,104,105,99,104,32,48,10]
def eSays:Str:=[118,105,101,119,32,48,10,116,104,105,110,103,32,48,32,48,10,109,97,114,107,32,53,56,53,48,48,48,32,53,57,51,57,57,57,10,116,104,105,110,103,32,49,32,48,10,102,97,114,32,57,53,57,49,32,49,48,50,52,49,10,116,104,105,110,103,32,50,32,50,10,109,111,118,101,100,32,52,10,101,114,114,111,114,32,52,10,116,114,105,109,32,50,32,49,32,48,32,51,10,101,114,114,111,114,32,54,10,100,101,101,112,32,50,57,53,54,32,49,49,55,48,48,10,98,111,120,32,48,10,98,111,120,32,49,10,99,97,114,100,32,48,10,99,97,114,100,32,49,32,105,115,32,48,32,49,32,105,115,32,49,32,51,10,119,104,105,99,104,32,49,10]
theorem Dq3:linesX eScript []=[[118,105,101,119],[116,104,105,110,103,32,48,32,49,49,48,48,32,49,49,48,49,32,57,48,52,32,57,48,53],[109,97,114,107,32,48,32,48,32,51,48,48,48],[116,104,105,110,103,32,48,32,49,48,53,48,32,49,48,53,48,32,57,57,48,32,57,57,50],[102,97,114,32,48,32,49],[116,104,105,110,103,32,48,32,49,48,48,48,32,49,48,48,50,32,49,48,48,53,32,49,48,48,54],[109,111,118,101,100,32,48],[109,97,114,107,32,48,32,49,32,52,48,48,48],[116,114,105,109,32,48],[116,104,105,110,103,32,48,32,48,32,48,32,48,32,48],[100,101,101,112,32,48],[98,111,120,32,49,32,102,97,108,108,115,32,109,105,108,108,32,112,97,115,115],[98,111,120,32,50,32,109,105,108,108,32,108,97,107,101],[99,97,114,100,32,48,32,63,32,109,105,42],[99,97,114,100,32,50,32,42,32,109,105,108,108],[119,104,105,99,104,32,48]]:=by kernel_rfl
theorem Du4:(runL cE noBn (linesX eScript [])).2=eSays:=by
  rw [Dq3];have h:=(Ai1 eS0 (Ai1 eS1 (Ai1 eS2 (Ai1 eS3 (Ai1 eS4 (Ai1 eS5 (Ai1 eS6 (Ai1 eS7 (Ai1 eS8 (Ai1 eS9 (Ai1 Du3 (Ai1 Du2 (Ai1 Du1 (Ai1 Du0 (Ai1 Dt9 (Ai1 Dt8 (show runL cE eB16 []=(eB16,[]) from rfl)))))))))))))))));rw [show noBn=eB0 from rfl];refine (congrArg Prod.snd h).trans ?_;exact (show _=eSays by kernel_rfl)
theorem Dt2:runX cE eScript=(eSays,0):=by
  unfold runX;rw [if_neg (by decide +kernel),if_neg (fun h=>h.2 (by decide +kernel)),if_pos (by decide +kernel),show bareC cE=cE from rfl,Du4]
end Go.Dk
namespace Go.Proofs.YtnmkdiagbkkmaabGreatDoor
open Go Go.Eng
theorem BD0:Enters Tryz.prog 23:=Aa1 Tryz.func23 (by kernel_rfl) rfl
theorem Dp9:Enters Tryz.prog 27:=Aa1 Tryz.func27 (by kernel_rfl) rfl
theorem Cw6:Enters Tryz.prog 59:=Aa1 Tryz.func59 (by kernel_rfl) rfl
theorem Co4:placesB Tryz.prog 26=some [(0,2),(2,2),(4,1),(5,1),(6,1),(7,1)]:=by kernel_rfl
theorem Co3:placesB Tryz.prog 28=some [(0,8),(8,1),(9,1),(10,1),(11,2),(13,1),(14,1),(15,1),(16,1)]:=by kernel_rfl
theorem AQ0:zeroB Tryz.prog 26=some [.int .i64 0,.int .i64 0,.int .i64 0,.int .i64 0,.int .i64 0,.int .i64 0,.int .i64 0,.slice none 0 0]:=by kernel_rfl
end Go.Proofs.YtnmkdiagbkkmaabGreatDoor
namespace Go.Proofs.YtnmkdiagbkkmaabGreatDoor
open Go Go.Eng Go.Dk Go.RowKit Go.Pw1 Go.Hp

theorem Bf9 (c:Cd) (q:Option Addr) (b o cap:Nat) (s:Str) (W:World) (hS:Sl W q b o 9 (c.p.things.map Th.cells)) (hq:q=none→cap=0) (hl:c.p.things.length≤1000) (hL:Lw Tryz.prog W) (hs:s.length≤100000∨131072 < s.length) :
    Calls Tryz.prog 23 #[c.v q cap,.string (bs s)] W (Pure (.tuple #[.string (bs (runX c s).1),.int .i64 (runX c s).2]) W):=by
  by_cases h1:131072 < s.length
  · exact CQ3 c q b o cap s W h1
  · have hs2:s.length≤100000:=by omega
    by_cases h2:s ≠ []∧Lib.hasSuffix s [10]=false
    · exact CQ4 c q b o cap s W h1 h2.1 h2.2
    · cases hc:cardIs c with
      | false=>exact Dh1 c q b o cap s W hS hq hl hL h1 (Cz3 h2) hc
      | true=>exact Dr8 c q b o cap s W hS hq hl hL hs2 (Cz3 h2) hc
theorem AM6 (lo hi:Int) (W:World):Calls Tryz.prog 59 #[.int .i64 lo,.int .i64 hi] W (Pure (.agg #[.int .i64 lo,.int .i64 hi]) W):=by
  refine Aa0 Tryz.func59 rfl rfl ?_;refine st ?_;refine zn (New.alloc Ae4) (fun b4=>?_)
  refine lv (Val.build (parts:=[(0,.tmp 5),(1,.tmp 6)]) rfl Ae4 Am2 rfl) ?_;refine Ab1 (Sto.store rfl rfl .here Ag8 rfl rfl) rfl rfl ?_;refine su ?_;exact Aa4 (.r1 rfl (.agg rfl (.head _) Ag8 rfl)) (by first | rfl | simp)
theorem BN8 (W:World):Calls Tryz.prog 27 #[] W (Pure (cE.v none 0) W):=by
  refine Aa0 Tryz.func27 rfl rfl ?_;refine st ?_;refine zn (New.alloc Bo9) (fun b0=>?_)
  refine zc (zF rfl Cw6) (fun w hm=>AM6 _ _ w) ?_;refine zc (zF rfl Cw6) (fun w hm=>AM6 _ _ w) ?_;refine lv (Val.build (parts:=[(0,.tmp 2),(1,.tmp 3),(2,.const (.int .i64 5)),(3,.const (.int .i64 2000)),(4,.const (.int .i64 100000))]) rfl AQ0 Co4 rfl) ?_;refine zn (New.alloc AQ0) (fun b1=>?_)
  refine Ab1 (Sto.store rfl rfl .here AQ1 rfl rfl) rfl rfl ?_;refine st ?_;refine Ac3 2 Ai6 (.cons .here rfl (.cons .here rfl .nil)) ?_;refine zw 0 ?_;refine zA 1 ?_;refine Ab4 rfl (zF rfl Cw6) rfl rfl rfl (fun w hm=>AM6 _ _ w) (Aa3 (.cons .here rfl (.cons .here rfl .nil)) (.cons .here rfl (.cons .here rfl .nil)) rfl ?_)
  refine zt ?_;refine zo 2 rfl (Val.build (parts:=[(0,.tmp 5),(1,.const (.int .i64 3200)),(2,.const (.int .i64 50)),(3,.const (.int .i64 20)),(4,.tmp 6),(5,.const (.int .i64 300)),(6,.const (.int .i64 900)),(7,.const (.int .i64 100)),(8,.const (.int .i64 200))]) rfl Bo9 Co3 rfl) ?_;refine zB 3 ?_;refine Ab8 rfl (Sto.store rfl rfl (.there .here) BH4 rfl rfl) rfl rfl (Ab7 ?_)
  refine zd ?_;refine su ?_;exact Aa4 (.r1 rfl (.agg rfl (.tail _ (.head _)) BH4 rfl)) (by first | rfl | simp)
theorem Ce4 (W:World) (hL:Lw Tryz.prog W):Calls Tryz.prog 23 #[cE.v none 0,.string (bs eScript)] W (Pure (.tuple #[.string (bs eSays),.int .i64 0]) W):=by
  have h:=Bf9 cE none 0 0 0 eScript W ⟨fun h=>absurd rfl h,fun x hx=>(by cases hx),fun i h=>(by cases h)⟩ (fun _=>rfl) (by decide) hL (.inl (by decide +kernel));rw [Dt2] at h;exact h
theorem BM9 (t:Str) (ht:t=eSays) (W:World) (hL:Lw Tryz.prog W):Calls Tryz.prog 23 #[cE.v none 0,.string (bs eScript)] W (Pure (.tuple #[.string (bs t),.int .i64 0]) W):=by
  rw [ht];exact Ce4 W hL
set_option maxRecDepth 100000 in
theorem Ap0 (W:World) (hL:Lw Tryz.prog W):Calls Tryz.prog 9 #[] W (Pure (.bool true) W):=by
  obtain ⟨t,ht⟩:∃ t,t=eSays:=⟨_,rfl⟩;refine Aa0 Tryz.func9 rfl rfl ?_;refine st ?_;refine zc (zF rfl Dp9) (fun w hm=>BN8 w) ?_;refine zc (zF rfl BD0) (fun w hm=>BM9 t ht w (hL.mono hm)) ?_;refine lv (AK4 (a:=t) (b:=eSays) rfl rfl) ?_;refine Ae3 (dj:=10) true rfl (by simp [ht]) ?_;refine su ?_;exact Aa4 (.r1 rfl (.tmp rfl)) (by first | rfl | simp)
end Go.Proofs.YtnmkdiagbkkmaabGreatDoor
namespace Go.Dk
open Go Go.Eng Go.Pw1 Go.Hp
structure VwRight (c:Cd) (v:Vw):Prop where
  pw:(powerX v.p).2=0
  s1:v.p.focal=c.p.focal
  s2:v.p.base=c.p.base
  s3:v.p.tilt=c.p.tilt
  s4:v.p.near=c.p.near
  s5:v.p.far=c.p.far
  n:v.p.things.length≤12
  up:v.up=true→(hurtsX (cardV c v) v.cuts).2.2=0
  dn:v.up=false→v.cuts=noTr
structure Right (c:Cd) (b:Bn):Prop where
  v:∀ v∈b.views,VwRight c v
  nv:b.views.length≤4
  nb:b.heap.boxes.length≤4
  nc:b.heap.cards.length≤8
  w:(WhyX b.heap).2=0
theorem Ca0 (c:Cd):Right c noBn:=⟨fun v h=>(by cases h),by decide,by decide,by decide,by kernel_rfl⟩
variable {c:Cd} {b:Bn}
theorem Right.put (h:Right c b) {i:Nat} {v:Vw} (hv:VwRight c v):Right c (putV b i v) :=
  ⟨fun x hx=>by
    rcases List.mem_or_eq_of_mem_set hx with hx | rfl
    · exact h.v x hx
    · exact hv,by show (b.views.set i v).length≤4;rw [List.length_set];exact h.nv,h.nb,h.nc,h.w⟩
theorem Right.at (h:Right c b) {i:Nat} (hi:i < b.views.length):VwRight c (b.views.getD i noVw):=by
  rw [List.getD_eq_getElem?_getD,List.getElem?_eq_getElem hi];exact h.v _ (List.getElem_mem hi)
theorem By2 {p:Pr} {n:Int} (h:(whyX p n).2=0) (hk:∀ k,truthsX p [n] = .error k→k ≠ 0):(powerX p).2=0:=by
  unfold whyX at h
  split at h
  · rename_i k hk2
    exact absurd h (hk k hk2)
  · rename_i w hw
    unfold truthsX at hw
    split at hw
    · cases hw
    · rename_i u hu
      have h1:=(AJ2 hu).1;unfold powerX truthsX openX;rw [if_pos h1];simp only [List.any_nil,Bool.false_eq_true,if_false];rw [hw]
theorem Ck0 {p:Pr} {l:List Int} {k:Int} (h:truthsX p l = .error k):k ≠ 0:=by
  unfold truthsX openX lookX at h
  split at h
  · rename_i h1
    cases h
    split at h1
    · split at h1
      · cases h1;decide
      · cases h1
    · cases h1;decide
  · split at h
    · cases h
    · cases h;decide
theorem Cg0 (hc:cardIs c=true):(powerX (bareC c).p).2=0:=by
  have h1:isPair c.p=true:=by
    unfold cardIs at hc;simp only [Bool.and_eq_true,Bool.not_eq_true',decide_eq_false_iff_not] at hc;have h2:=hc.1.1
    cases hp:isPair c.p with
    | true=>rfl
    | false =>
      exfalso
      apply h2
      unfold powerX truthsX openX;rw [hp];rfl
  have h3:isPair (bareC c).p=true:=by
    unfold isPair at h1 ⊢;simp only [Bool.and_eq_true] at h1 ⊢;exact ⟨⟨h1.1.1,(show decide (((0:Nat):Int)≤12)=true by decide)⟩,rfl⟩
  unfold powerX truthsX openX;rw [if_pos h3];rfl
theorem BZ7 (hc:cardIs c=true) (h:Right c b) {b':Bn} {r:Str} (e:viewD (bareC c) b = .ok (b',r)):Right c b':=by
  unfold viewD at e
  split at e
  · rename_i hl
    cases e
    refine ⟨fun v hv=>?_,by simp;omega,h.nb,h.nc,h.w⟩
    rcases List.mem_append.1 hv with hv | hv
    · exact h.v v hv
    · rw [List.mem_singleton] at hv
      subst hv;exact ⟨Cg0 hc,rfl,rfl,rfl,rfl,rfl,(show (0:Nat)≤12 by decide),fun h=>(by cases h),fun _=>rfl⟩
  · cases e
theorem BI9 (h:Right c b) {i:Nat} (hi:i < b.views.length) {x1 x2 y1 y2:Int} {b':Bn} {r:Str} (e:thingD b i x1 x2 y1 y2 = .ok (b',r)):Right c b':=by
  have hv:=h.at hi;unfold thingD at e;dsimp only at e
  split at e
  · cases e
  · rename_i hu
    split at e
    · cases e
    · rename_i hl
      split at e
      · rename_i hw
        cases e
        exact h.put ⟨By2 hw (fun k hk=>Ck0 hk),hv.s1,hv.s2,hv.s3,hv.s4,hv.s5,by rw [List.length_append,List.length_singleton];omega,fun h2=>absurd h2 hu,hv.dn⟩
      · cases e
theorem Ca1 (h:Right c b) {i k:Nat} (hi:i < b.views.length) {far:Int} {b':Bn} {r:Str} (e:markD b i k far = .ok (b',r)):Right c b':=by
  have hv:=h.at hi;unfold markD at e;dsimp only at e
  split at e
  · cases e
  · split at e
    · cases e
    · rename_i hu
      split at e
      · rename_i hw
        cases e
        exact h.put ⟨hw,hv.s1,hv.s2,hv.s3,hv.s4,hv.s5,by rw [List.length_modify];exact hv.n,fun h2=>absurd h2 hu,hv.dn⟩
      · cases e
theorem BY4 {x:Cd} (h:(trimX x).2=0):(hurtsX x (trimX x).1).2.2=0:=by
  unfold trimX at h ⊢
  split at h
  · rename_i ho
    rw [if_pos ho]
    split at h
    · rename_i t ht
      dsimp only;obtain ⟨h1,-,h3⟩:=AJ3 ho;obtain ⟨t1,t2,-⟩:=Dg5 (Ax3 h1).1 ht
      have h5:openM x [t]=0:=by
        unfold openM;rw [if_pos h1,if_pos (by simp [t1]),h3]
      unfold hurtsX;rw [if_pos h5];unfold fitT at t2;rw [if_pos (by simpa using t2)]
    · cases h
  · rename_i ho
    exact absurd h ho
theorem BZ8 (h:Right c b) {i:Nat} (hi:i < b.views.length) {b':Bn} {r:Str} (e:trimD (bareC c) b i = .ok (b',r)):Right c b':=by
  have hv:=h.at hi;unfold trimD at e;dsimp only at e
  split at e
  · cases e
  · split at e
    · rename_i ht
      cases e
      refine h.put ⟨hv.pw,hv.s1,hv.s2,hv.s3,hv.s4,hv.s5,hv.n,fun _=>?_,fun h2=>(by cases h2)⟩
      exact BY4 (x:=cardV c (b.views.getD i noVw)) ht
    · cases e
theorem Cn2 (h:Right c b) {i:Nat} (hi:i < b.views.length) {b':Bn} {r:Str} (e:offD b i = .ok (b',r)):Right c b':=by
  have hv:=h.at hi;unfold offD at e;dsimp only at e
  split at e
  · cases e
  · cases e
    exact h.put ⟨hv.pw,hv.s1,hv.s2,hv.s3,hv.s4,hv.s5,hv.n,fun h2=>(by cases h2),fun _=>rfl⟩
theorem Cn3 (h:Right c b) {w:List Str} {b':Bn} {r:Str} (e:boxD b w = .ok (b',r)):Right c b':=by
  unfold boxD at e
  split at e
  · cases e
  · split at e
    · cases e
    · split at e
      · cases e
      · rename_i hl
        dsimp only at e
        split at e
        · rename_i hw
          cases e
          exact ⟨h.v,h.nv,by simp;omega,h.nc,hw⟩
        · cases e
theorem Ca4 (h:Right c b) {w:List Str} {b':Bn} {r:Str} (e:cardD b w = .ok (b',r)):Right c b':=by
  unfold cardD at e
  split at e
  · cases e
  · split at e
    · cases e
    · split at e
      · cases e
      · rename_i hl
        split at e
        · cases e
        · dsimp only at e
          split at e
          · cases e
          · rename_i hw
            split at e
            · cases e
            · cases e
              exact ⟨h.v,h.nv,h.nb,by simp;omega,Classical.not_not.1 hw⟩
theorem Bj9 {i k:Nat} {b':Bn} {r:Str} (e:farD b i k = .ok (b',r)):b'=b:=by
  unfold farD at e;dsimp only at e
  split at e
  · cases e
  · split at e <;> cases e;rfl
theorem AS9 {i:Nat} {b':Bn} {r:Str} (e:movedD b i = .ok (b',r)):b'=b:=by
  unfold movedD at e;dsimp only at e
  split at e <;> cases e;rfl
theorem AT0 {i:Nat} {t:Tr} {b':Bn} {r:Str} (e:hurtsD c b i t = .ok (b',r)):b'=b:=by
  unfold hurtsD at e;dsimp only at e
  split at e
  · cases e;rfl
  · split at e <;> cases e;rfl
theorem Ba1 {i:Nat} {b':Bn} {r:Str} (e:deepD c b i = .ok (b',r)):b'=b:=by
  unfold deepD at e;dsimp only at e
  split at e
  · cases e
  · split at e <;> cases e;rfl
theorem Ba0 {b':Bn} {r:Str} (e:waysD b = .ok (b',r)):b'=b:=by
  unfold waysD at e
  split at e <;> cases e;rfl
theorem AS8 {k:Nat} {b':Bn} {r:Str} (e:whichD b k = .ok (b',r)):b'=b:=by
  unfold whichD at e
  split at e
  · cases e
  · split at e
    · cases e
    · cases e;rfl
theorem Ca3 (hc:cardIs c=true) (h:Right c b) {x:Str} {v:Vb} (hv:verbX x=some v) {n:List Int} (hn:v.about=true→N n 0 < b.views.length) {b':Bn} {r:Str} (e:v.does (bareC c) b n = .ok (b',r)):Right c b':=by
  obtain ⟨k,hk⟩:=Bv7 hv;simp only [verbsX,List.mem_cons,Prod.mk.injEq,List.not_mem_nil,or_false] at hk
  rcases hk with ⟨-,rfl⟩ | ⟨-,rfl⟩ | ⟨-,rfl⟩ | ⟨-,rfl⟩ | ⟨-,rfl⟩ | ⟨-,rfl⟩ | ⟨-,rfl⟩ | ⟨-,rfl⟩ | ⟨-,rfl⟩ | ⟨-,rfl⟩ | ⟨-,rfl⟩
  · exact BZ7 hc h e
  · exact BI9 h (hn rfl) e
  · exact Ca1 h (hn rfl) e
  · rw [Bj9 e];exact h
  · rw [AS9 e];exact h
  · rw [AT0 e];exact h
  · exact BZ8 h (hn rfl) e
  · rw [Ba1 e];exact h
  · exact Cn2 h (hn rfl) e
  · rw [Ba0 e];exact h
  · rw [AS8 e];exact h
theorem Ca2 (hc:cardIs c=true) (h:Right c b) {s:Str} {b':Bn} {r:Str} (e:lineX (bareC c) b s = .ok (b',r)):Right c b':=by
  unfold lineX at e
  split at e
  · cases e
  · split at e
    · cases e
    · split at e
      · exact Cn3 h e
      · split at e
        · exact Ca4 h e
        · split at e
          · cases e
          · rename_i hv
            split at e
            · cases e
            · split at e
              · cases e
              · split at e
                · cases e
                · rename_i hr
                  exact Ca3 hc h hv (fun h1=>Classical.byContradiction fun h2=>hr ⟨h1,h2⟩) e
theorem BZ9 (hc:cardIs c=true) (h:Right c b) (s:Str):Right c (stepX (bareC c) b s).1:=by
  unfold stepX
  cases e:lineX (bareC c) b s with
  | ok y=>exact Ca2 hc h e
  | error k=>exact h
end Go.Dk
namespace Go.Proofs.YtnmkdiagbkkmaabGreatDoor
open Go Go.Eng Go.Pw1

theorem AN5 (n lo hi:Int) (W:World):Calls Tryz.prog 98 #[.int .i64 n,.int .i64 lo,.int .i64 hi] W (Pure (.bool (within n lo hi)) W):=by
  refine Aa0 Tryz.func98 rfl rfl ?_;refine st ?_
  refine Ab3 (dj:=10) (dp:=14) 4 rfl (fun g10=>by
    have g10':=g10;try simp only [nH] at g10'
    refine sv ?_;exact zs g10
  ) (fun g10=>by
    have g10':=g10;try simp only [nH] at g10'
    iterate 3 refine Ac0 rfl rfl rfl ?_
    refine sv ?_;exact zs g10
  ) ?_
  refine su ?_;exact Aa4 (.r1 rfl (.tmp rfl)) (by first | rfl | simp)
theorem AD6 (s:Sp) (lo hi:Int) (W:World):Calls Tryz.prog 99 #[.agg #[.int .i64 s.lo,.int .i64 s.hi],.int .i64 lo,.int .i64 hi] W (Pure (.bool (isSpan s lo hi)) W):=by
  refine Aa0 Tryz.func99 rfl rfl ?_;refine st ?_;refine zn (New.box rfl) (fun b3=>?_)
  refine Ab3 (dj:=11) (dp:=17) 6 rfl (fun g11=>by
    have g11':=g11;try simp only [nH] at g11'
    refine lv (Val.fieldAddr rfl Az3) ?_;refine lv (Ab5 rfl (.head _) Ag7 rfl) ?_;refine lv (Val.fieldAddr rfl An0) ?_;refine Ac9 (Ab5 rfl (.head _) Ag7 rfl) rfl rfl rfl ?_;refine sv ?_;exact zs g11
  ) (fun g11=>by
    have g11':=g11;try simp only [nH] at g11'
    iterate 5 refine Ac0 rfl rfl rfl ?_
    refine sv ?_;exact zs g11
  ) ?_
  refine st ?_
  refine Ab3 (dj:=18) (dp:=23) 5 rfl (fun g18=>by
    have g18':=g18;try simp only [nH] at g18'
    refine lv (Val.fieldAddr rfl An0) ?_;refine Ac9 (Ab5 rfl (.head _) Ag7 rfl) rfl rfl rfl ?_;refine sv ?_;exact zs g18
  ) (fun g18=>by
    have g18':=g18;try simp only [nH] at g18'
    iterate 4 refine Ac0 rfl rfl rfl ?_
    refine sv ?_;exact zs g18
  ) ?_
  refine su ?_;exact Aa4 (.r1 rfl (.tmp rfl)) (by first | rfl | simp)
theorem AS7 (x y:Sp) (W:World):Calls Tryz.prog 97 #[.agg #[.int .i64 x.lo,.int .i64 x.hi,.int .i64 y.lo,.int .i64 y.hi]] W (Pure (.bool (isPlace x y)) W):=by
  refine Aa0 Tryz.func97 rfl rfl ?_;refine st ?_;refine zn (New.box rfl) (fun b1=>?_)
  refine zc (zF rfl BU6) (fun w hm=>AD6 ⟨_,_⟩ _ _ w) ?_
  refine Ab3 (dj:=6) (dp:=10) 4 rfl (fun g6=>by
    have g6':=g6;try simp only [nH] at g6'
    refine su ?_;refine Ab9 (zF rfl BU6) rfl rfl rfl (fun w hm=>AD6 ⟨_,_⟩ _ _ w) ?_;refine sv ?_;exact zs g6
  ) (fun g6=>by
    have g6':=g6;try simp only [nH] at g6'
    iterate 3 refine Ac0 rfl rfl rfl ?_
    refine sv ?_;exact zs g6
  ) ?_
  refine su ?_;exact Aa4 (.r1 rfl (.tmp rfl)) (by first | rfl | simp)
theorem BJ0 (p:Pr) (q:Option Addr) (b o cap:Nat) (W:World) (hS:Sl W q b o 9 (p.things.map Th.cells)) (hl:p.things.length≤100000000000) :
    Calls Tryz.prog 47 #[p.v q cap] W (Pure (.bool (isPair p)) W):=by
  refine Aa0 Tryz.func47 rfl rfl ?_;refine st ?_;refine zn (New.box rfl) (fun b1=>?_)
  refine Ad7 (p.things.length) (fun k q=>(3,.int .i64 (k:Int))::q) (fun _=>_) (fun _=>[]) (fun k=>(p.things.take k).any (bad p)=false) (by simp) rfl (zE 3 rfl rfl (zS 1 rfl (Sub.nil _))) (.cons .here rfl .nil) ?_;intro k kN kI;refine su ?_;refine cn rfl ?_ ?_
  ·intro c0'
   have hk:k < p.things.length:=by omega
   obtain ⟨t,ht⟩:∃ t,p.things[k]=t:=⟨_,rfl⟩;refine su ?_;refine lv (Aa7 rfl rfl AB4 (by omega) (by omega) (hS.ptrM hk)) ?_;refine lv (Aa9 rfl (fun w hm=>hS.loadX (by decide) hm (by simp) Ay1 hk ht)) ?_;refine zn (New.alloc Aw3) (fun b4=>?_)
   refine Ab1 (Sto.store rfl rfl .here Ay1 rfl rfl) rfl rfl ?_;refine su ?_;refine zc (zF rfl CS1) (fun w hm=>AS7 ⟨_,_⟩ ⟨_,_⟩ w) ?_
   refine Ae1 (dj:=21) (dp:=26) 5 rfl (fun g21=>by
     have g21':=g21;try simp only [nH] at g21'
     refine su ?_;refine Ab9 (zF rfl CS1) rfl rfl rfl (fun w hm=>AS7 ⟨_,_⟩ ⟨_,_⟩ w) ?_;refine sv ?_;exact zs g21
   ) (fun g21=>by
     have g21':=g21;try simp only [nH] at g21'
     iterate 4 refine Ac0 rfl rfl rfl ?_
     refine sv ?_;exact zs g21
   ) ?_
   refine st ?_
   refine Ae1 (dj:=27) (dp:=41) 14 rfl (fun g27=>by
     have g27':=g27;try simp only [nH] at g27'
     refine su ?_
     refine Ab3 (dj:=31) (dp:=40) 9 rfl (fun g31=>by
       have g31':=g31;try simp only [nH] at g31'
       refine su ?_;refine Ab9 (zF rfl BU7) rfl rfl rfl (fun w hm=>AN5 _ _ _ w) ?_;refine sv ?_;exact zs g31
     ) (fun g31=>by
       have g31':=g31;try simp only [nH] at g31'
       iterate 8 refine Ac0 rfl rfl rfl ?_
       refine sv ?_;exact zs g31
     ) ?_
     refine sv ?_;exact zs g27
   ) (fun g27=>by
     have g27':=g27;try simp only [nH] at g27'
     iterate 13 refine Ac0 rfl rfl rfl ?_
     refine sv ?_;exact zs g27
   ) ?_
   refine st ?_;refine cn rfl ?_ ?_
   ·intro c1'
    refine su ?_;exact Aa4 (.r1 rfl (.tmp rfl)) (by have h:=CB9 (f:=bad p) hk (by rw [ht];simpa [bad] using c1');simp [isPair,h])
   intro c1';refine st ?_;refine lv (Val.add rfl rfl (IntWalk.i64_in _ ⟨by omega,by omega⟩)) ?_;exact Ac7 (by omega) (Az5 hk kI (by rw [ht];obtain ⟨⟨h1,h2⟩,h3⟩:=c1';simp only [bad,Bool.or_eq_false_iff,Bool.not_eq_false',Bool.and_eq_false_iff,decide_eq_true_eq];exact ⟨⟨h1,h2⟩,h3⟩)) rfl (zE 3 rfl rfl (zS 1 rfl (Sub.nil _))) (.cons (.there .here) rfl .nil)
  intro c0';obtain rfl:k=p.things.length:=by omega
  rw [List.take_length] at kI;refine RunC.exit ?_;refine su ?_;refine Ab0 ?_;refine su ?_
  refine Ab3 (dj:=46) (dp:=50) 4 rfl (fun g46=>by
    have g46':=g46;try simp only [nH] at g46'
    refine su ?_;refine Ab9 (zF rfl BU6) rfl rfl rfl (fun w hm=>AD6 ⟨_,_⟩ _ _ w) ?_;refine sv ?_;exact zs g46
  ) (fun g46=>by
    have g46':=g46;try simp only [nH] at g46'
    iterate 3 refine Ac0 rfl rfl rfl ?_
    refine sv ?_;exact zs g46
  ) ?_
  refine st ?_
  refine Ab3 (dj:=51) (dp:=55) 4 rfl (fun g51=>by
    have g51':=g51;try simp only [nH] at g51'
    refine su ?_;refine Ab9 (zF rfl BU6) rfl rfl rfl (fun w hm=>AD6 ⟨_,_⟩ _ _ w) ?_;refine sv ?_;exact zs g51
  ) (fun g51=>by
    have g51':=g51;try simp only [nH] at g51'
    iterate 3 refine Ac0 rfl rfl rfl ?_
    refine sv ?_;exact zs g51
  ) ?_
  refine st ?_
  refine Ab3 (dj:=56) (dp:=60) 4 rfl (fun g56=>by
    have g56':=g56;try simp only [nH] at g56'
    refine su ?_;refine Ab9 (zF rfl BU7) rfl rfl rfl (fun w hm=>AN5 _ _ _ w) ?_;refine sv ?_;exact zs g56
  ) (fun g56=>by
    have g56':=g56;try simp only [nH] at g56'
    iterate 3 refine Ac0 rfl rfl rfl ?_
    refine sv ?_;exact zs g56
  ) ?_
  refine st ?_
  refine Ab3 (dj:=61) (dp:=65) 4 rfl (fun g61=>by
    have g61':=g61;try simp only [nH] at g61'
    refine su ?_;refine Ab9 (zF rfl BU7) rfl rfl rfl (fun w hm=>AN5 _ _ _ w) ?_;refine sv ?_;exact zs g61
  ) (fun g61=>by
    have g61':=g61;try simp only [nH] at g61'
    iterate 3 refine Ac0 rfl rfl rfl ?_
    refine sv ?_;exact zs g61
  ) ?_
  refine st ?_
  refine Ab3 (dj:=66) (dp:=72) 6 rfl (fun g66=>by
    have g66':=g66;try simp only [nH] at g66'
    refine su ?_;refine Ab9 (zF rfl BU7) rfl rfl rfl (fun w hm=>AN5 _ _ _ w) ?_;refine sv ?_;exact zs g66
  ) (fun g66=>by
    have g66':=g66;try simp only [nH] at g66'
    iterate 5 refine Ac0 rfl rfl rfl ?_
    refine sv ?_;exact zs g66
  ) ?_
  refine su ?_;exact Aa4 (.r1 rfl (.tmp rfl)) (by simp only [isPair,kI,Bool.not_false,Bool.and_true];congr 1;cases isSpan p.focal 1 50000 <;> cases isSpan p.base 1 10000 <;> cases within p.tilt 0 1000 <;> cases within p.near 2000 1073741824 <;> cases within p.far p.near 1073741824 <;> simp)
end Go.Proofs.YtnmkdiagbkkmaabGreatDoor
namespace Go.Pw1
open Go Go.Eng
end Go.Pw1
namespace Go.Proofs.YtnmkdiagbkkmaabGreatDoor
open Go Go.Eng Go.Pw1

theorem Ar0 (n lo hi:Int) (W:World):Calls Tryz.prog 46 #[.int .i64 n,.int .i64 lo,.int .i64 hi] W (Pure (.bool (within n lo hi)) W):=by
  refine Aa0 Tryz.func46 rfl rfl ?_;refine st ?_
  refine Ab3 (dj:=10) (dp:=14) 4 rfl (fun g10=>by
    have g10':=g10;try simp only [nH] at g10'
    refine sv ?_;exact zs g10
  ) (fun g10=>by
    have g10':=g10;try simp only [nH] at g10'
    iterate 3 refine Ac0 rfl rfl rfl ?_
    refine sv ?_;exact zs g10
  ) ?_
  refine su ?_;exact Aa4 (.r1 rfl (.tmp rfl)) (by first | rfl | simp)
theorem AT2 (c:Cd) (q:Option Addr) (b o cap:Nat) (W:World) (hS:Sl W q b o 9 (c.p.things.map Th.cells)) (hl:c.p.things.length≤100000000000) :
    Calls Tryz.prog 19 #[c.v q cap] W (Pure (.bool (cardR c)) W):=by
  refine Aa0 Tryz.func19 rfl rfl ?_;refine st ?_;refine zn (New.box rfl) (fun b1=>?_)
  refine zc (zF rfl Bd4) (fun w hm=>Ar0 _ _ _ w) ?_
  refine Ab3 (dj:=7) (dp:=11) 4 rfl (fun g7=>by
    have g7':=g7;try simp only [nH] at g7'
    refine su ?_;refine Ab9 (zF rfl Bd4) rfl rfl rfl (fun w hm=>Ar0 _ _ _ w) ?_;refine sv ?_;exact zs g7
  ) (fun g7=>by
    have g7':=g7;try simp only [nH] at g7'
    iterate 3 refine Ac0 rfl rfl rfl ?_
    refine sv ?_;exact zs g7
  ) ?_
  refine st ?_
  refine Ab3 (dj:=12) (dp:=16) 4 rfl (fun g12=>by
    have g12':=g12;try simp only [nH] at g12'
    refine su ?_;refine Ab9 (zF rfl Bd4) rfl rfl rfl (fun w hm=>Ar0 _ _ _ w) ?_;refine sv ?_;exact zs g12
  ) (fun g12=>by
    have g12':=g12;try simp only [nH] at g12'
    iterate 3 refine Ac0 rfl rfl rfl ?_
    refine sv ?_;exact zs g12
  ) ?_
  refine st ?_
  refine Ab3 (dj:=17) (dp:=22) 5 rfl (fun g17=>by
    have g17':=g17;try simp only [nH] at g17'
    refine lv (Val.fieldAddr rfl Az2) ?_;refine lv (Val.fieldAddr rfl Az3) ?_;refine Ac9 (Ab5 rfl (.head _) Ag7 rfl) rfl rfl rfl ?_;refine sv ?_;exact zs g17
  ) (fun g17=>by
    have g17':=g17;try simp only [nH] at g17'
    iterate 4 refine Ac0 rfl rfl rfl ?_
    refine sv ?_;exact zs g17
  ) ?_
  refine st ?_
  refine Ab3 (dj:=23) (dp:=31) 8 rfl (fun g23=>by
    have g23':=g23;try simp only [nH] at g23'
    refine lv (Val.fieldAddr rfl Az2) ?_;refine lv (Val.fieldAddr rfl Az3) ?_;refine lv (Ab5 rfl (.head _) Ag7 rfl) ?_;refine lv (Val.fieldAddr rfl Az2) ?_;refine lv (Val.fieldAddr rfl An0) ?_;refine Ac9 (Ab5 rfl (.head _) Ag7 rfl) rfl rfl rfl ?_;refine sv ?_;exact zs g23
  ) (fun g23=>by
    have g23':=g23;try simp only [nH] at g23'
    iterate 7 refine Ac0 rfl rfl rfl ?_
    refine sv ?_;exact zs g23
  ) ?_
  refine st ?_
  refine Ab3 (dj:=32) (dp:=37) 5 rfl (fun g32=>by
    have g32':=g32;try simp only [nH] at g32'
    refine lv (Val.fieldAddr rfl Az2) ?_;refine lv (Val.fieldAddr rfl An0) ?_;refine Ac9 (Ab5 rfl (.head _) Ag7 rfl) rfl rfl rfl ?_;refine sv ?_;exact zs g32
  ) (fun g32=>by
    have g32':=g32;try simp only [nH] at g32'
    iterate 4 refine Ac0 rfl rfl rfl ?_
    refine sv ?_;exact zs g32
  ) ?_
  refine st ?_
  refine Ab3 (dj:=39) (dp:=43) 4 rfl (fun g39=>by
    have g39':=g39;try simp only [nH] at g39'
    refine su ?_;refine Ab9 (zF rfl Bd4) rfl rfl rfl (fun w hm=>Ar0 _ _ _ w) ?_;refine sv ?_;exact zs g39
  ) (fun g39=>by
    have g39':=g39;try simp only [nH] at g39'
    iterate 3 refine Ac0 rfl rfl rfl ?_
    refine sv ?_;exact zs g39
  ) ?_
  refine st ?_
  refine Ab3 (dj:=44) (dp:=48) 4 rfl (fun g44=>by
    have g44':=g44;try simp only [nH] at g44'
    refine su ?_;refine Ab9 (zF rfl Bd4) rfl rfl rfl (fun w hm=>Ar0 _ _ _ w) ?_;refine sv ?_;exact zs g44
  ) (fun g44=>by
    have g44':=g44;try simp only [nH] at g44'
    iterate 3 refine Ac0 rfl rfl rfl ?_
    refine sv ?_;exact zs g44
  ) ?_
  refine st ?_
  refine Ab3 (dj:=49) (dp:=53) 4 rfl (fun g49=>by
    have g49':=g49;try simp only [nH] at g49'
    refine su ?_;refine Ab9 (zF rfl Bd4) rfl rfl rfl (fun w hm=>Ar0 _ _ _ w) ?_;refine sv ?_;exact zs g49
  ) (fun g49=>by
    have g49':=g49;try simp only [nH] at g49'
    iterate 3 refine Ac0 rfl rfl rfl ?_
    refine sv ?_;exact zs g49
  ) ?_
  refine st ?_
  refine Ab3 (dj:=54) (dp:=58) 4 rfl (fun g54=>by
    have g54':=g54;try simp only [nH] at g54'
    refine su ?_;refine Ab9 (zF rfl Bd4) rfl rfl rfl (fun w hm=>Ar0 _ _ _ w) ?_;refine sv ?_;exact zs g54
  ) (fun g54=>by
    have g54':=g54;try simp only [nH] at g54'
    iterate 3 refine Ac0 rfl rfl rfl ?_
    refine sv ?_;exact zs g54
  ) ?_
  refine st ?_
  refine Ab3 (dj:=59) (dp:=63) 4 rfl (fun g59=>by
    have g59':=g59;try simp only [nH] at g59'
    refine su ?_;refine Ab9 (zF rfl Dp1) rfl rfl rfl (fun w hm=>BJ0 c.p q b o cap w (hS.mono (by decide) hm (by simp)) hl) ?_;refine sv ?_;exact zs g59
  ) (fun g59=>by
    have g59':=g59;try simp only [nH] at g59'
    iterate 3 refine Ac0 rfl rfl rfl ?_
    refine sv ?_;exact zs g59
  ) ?_
  refine su ?_;exact Aa4 (.r1 rfl (.tmp rfl)) (by simp [cardR,Bool.and_assoc])
end Go.Proofs.YtnmkdiagbkkmaabGreatDoor
namespace Go.Proofs.YtnmkdiagbkkmaabGreatDoor
open Go Go.Eng
theorem CT5:Enters Tryz.prog 19:=Aa1 Tryz.func19 (by kernel_rfl) rfl
end Go.Proofs.YtnmkdiagbkkmaabGreatDoor
namespace Go.Dk
open Go Go.Eng Go.RowKit Go.Pw1 Go.Hp
def farL (c:Cd) (l:List Str):Bool:=decide (40 < c.p.things.length) || decide (60 < l.length) || l.any fun s=>decide (400 < s.length)
def heavyC (c:Cd):Bool:=decide (20 < c.cuts) && cardR c
theorem BL3 {c:Cd} {l:List Str} (h:farL c l=false):c.p.things.length≤40∧l.length≤60∧∀ s∈l,s.length≤400:=by
  unfold farL at h;simp only [Bool.or_eq_false_iff,decide_eq_false_iff_not,List.any_eq_false,decide_eq_true_eq] at h;exact ⟨by omega,by omega,fun s hs=>by have:=h.2 s hs;omega⟩
theorem Dl8 {c:Cd} {l:List Str} (h:40 < (c.p.things.length:Int)∨60 < (l.length:Int)):farL c l=true:=by
  unfold farL
  rcases h with h | h
  · rw [decide_eq_true (show 40 < c.p.things.length by omega)];rfl
  · rw [decide_eq_true (show 60 < l.length by omega),Bool.or_true];rfl
theorem Dl7 {c:Cd} {l:List Str} {v:Str} (hv:v∈l) (h:400 < (v.length:Int)):farL c l=true:=by
  unfold farL;rw [show (l.any fun s=>decide (400 < s.length))=true from List.any_eq_true.2 ⟨v,hv,decide_eq_true (by omega)⟩,Bool.or_true]
theorem Dl6 {c:Cd} {l:List Str} (h:(c.p.things.length:Int)≤40∧(l.length:Int)≤60) (hl:∀ s∈l,s.length≤400):farL c l=false:=by
  unfold farL;rw [decide_eq_false (show ¬ 40 < c.p.things.length by omega),decide_eq_false (show ¬ 60 < l.length by omega),show (l.any fun s=>decide (400 < s.length))=false from List.any_eq_false.2 fun s hs=>by have:=hl s hs;simp;omega];rfl
end Go.Dk
namespace Go.Proofs.YtnmkdiagbkkmaabGreatDoor
open Go Go.Eng Go.Dk Go.RowKit Go.Pw1 Go.Hp

theorem AJ7 (c:Cd) (q:Option Addr) (cap:Nat) (l:List Str) (ql:Option Addr) (bl ol cl:Nat) (W:World) (hls:Sl W ql bl ol 1 (l.map strC)) :
    Calls Tryz.prog 7 #[c.v q cap,.slice ql l.length cl] W (Pure (.bool (farL c l)) W):=by
  refine Aa0 Tryz.func7 rfl rfl ?_;refine st ?_;refine zn (New.box rfl) (fun b2=>?_)
  refine Ae1 (dj:=11) (dp:=15) 4 rfl (fun g11=>by
    have g11':=g11;try simp only [nH] at g11'
    refine st ?_;refine Ac9 (Al4 rfl An6) rfl rfl rfl ?_;refine sv ?_;exact zs g11
  ) (fun g11=>by
    have g11':=g11;try simp only [nH] at g11'
    iterate 3 refine Ac0 rfl rfl rfl ?_
    refine sv ?_;exact zs g11
  ) ?_
  refine st ?_;refine cn rfl ?_ ?_
  ·intro c0'
   refine su ?_;exact Aa4 (.r1 rfl (.tmp rfl)) (by rw [Dl8 c0'])
  intro c0';refine st ?_;refine Ad7 (l.length) (fun k q=>(5,.int .i64 (k:Int))::q) (fun _=>_) (fun _=>[]) (fun k=>∀ s∈l.take k,s.length≤400) (by simp) rfl (zE 5 rfl rfl (zS 1 rfl (Sub.nil _))) .nil ?_;intro k kN kI;refine su ?_;refine cn rfl ?_ ?_
  ·intro c1'
   have hk:k < l.length:=by omega
   obtain ⟨v,hv⟩:∃ v,l[k]=v:=⟨_,rfl⟩;refine st ?_;refine lv (Aa7 rfl rfl An6 (by omega) (by omega) (hls.ptrM (i:=k) hk)) ?_;refine lv (Aa9 rfl (fun w hm=>Sl.loadM1 hls (by decide) hm (by simp) AC9 hk (v:=.string (bs v)) (by simp [strC,hv]))) ?_;refine lv (Ah2 rfl Ao2) ?_;refine cn rfl ?_ ?_
   ·intro c2'
    refine su ?_;exact Aa4 (.r1 rfl (.tmp rfl)) (by rw [Dl7 (hv ▸ List.getElem_mem hk) c2'])
   intro c2';refine st ?_;refine lv (Val.add rfl rfl (IntWalk.i64_in _ ⟨by omega,by omega⟩)) ?_;exact Ac7 (by omega) (fun s hs=>by rw [List.take_succ_eq_append_getElem hk,hv] at hs;rcases List.mem_append.1 hs with hs | hs;exact kI s hs;rw [List.mem_singleton] at hs;subst hs;omega) rfl (zE 5 rfl rfl (zS 1 rfl (Sub.nil _))) .nil
  intro c1';have hk:k=l.length:=by omega
  rw [hk,List.take_length] at kI;refine RunC.exit ?_;refine su ?_;refine Ab0 ?_;refine su ?_;exact Aa4 (.r1 rfl (.tmp rfl)) (by rw [Dl6 c0' kI])
theorem AH3 (c:Cd) (q:Option Addr) (b o cap:Nat) (W:World) (hS:Sl W q b o 9 (c.p.things.map Th.cells)) (hl:c.p.things.length≤100000000000) :
    Calls Tryz.prog 8 #[c.v q cap] W (Pure (.bool (heavyC c)) W):=by
  refine Aa0 Tryz.func8 rfl rfl ?_;refine st ?_;refine zn (New.box rfl) (fun b1=>?_)
  refine Ab3 (dj:=6) (dp:=9) 3 rfl (fun g6=>by
    have g6':=g6;try simp only [nH] at g6'
    refine su ?_;refine Ab9 (zF rfl CT5) rfl rfl rfl (fun w hm=>AT2 c q b o cap w (hS.mono (by decide) hm (by simp)) hl) ?_;refine sv ?_;exact zs g6
  ) (fun g6=>by
    have g6':=g6;try simp only [nH] at g6'
    refine Ac0 rfl rfl rfl ?_;refine Ac0 rfl rfl rfl ?_;refine sv ?_;exact zs g6
  ) ?_
  refine su ?_;exact Aa4 (.r1 rfl (.tmp rfl)) (by first | rfl | simp)
end Go.Proofs.YtnmkdiagbkkmaabGreatDoor
namespace Go.Dk
open Go Go.Eng Go.RowKit Go.Pw1 Go.Hp
structure BenA (W:World) (d:DkX):Prop where
  v:Sl W (ownQ d.v) (ownK d.v) 0 13 (d.vs.map VwX.cellsS)
  t:∀ x∈d.vs,Sl W (ownQ x.t) (ownK x.t) 0 9 (x.p.things.map Th.cells)
  m:MOk W d.mx
  sm:MSm d.mx
end Go.Dk
namespace Go.Proofs.YtnmkdiagbkkmaabGreatDoor
open Go Go.Eng Go.Dk Go.RowKit Go.Pw1 Go.Hp

theorem BW1 {W0 w:World} {d:DkX} {tl:Blks} (hd:DkOk d) (hm:Mem W0 [] (dkB d++tl) w):BenA w d:=by
  have hat:∀ b o,(b,o)∈dkB d→w.heap[b]? = some o:=fun b o hb=>(hm.newd b o (List.mem_append_left _ hb)).2
  have e1:d.vs.map VwX.cells=d.vs.map VwX.cellsS:=List.map_congr_left fun x hx=>VwX.cells_eq (hd.vs x hx)
  have e2:d.bs.map BoX.cells=(d.bs.map BoX.a).map BxA.cells:=by
    rw [List.map_map];exact List.map_congr_left fun x hx=>BoX.cells_eq (hd.bs x hx)
  refine ⟨?_,fun x hx=>?_,⟨?_,fun x hx=>?_,?_⟩,⟨?_,?_,fun x hx=>?_,fun t ht=>?_⟩⟩
  · rw [← e1]
    exact Am3 (f:=VwX.cells) (e:=62) (fun _=>rfl) (by decide) hd.v (fun b o h=>hat b o (Dq5 h))
  · exact Am3 (f:=Th.cells) (e:=66) (fun _=>rfl) (by decide) (hd.vs x hx) (fun b o h=>hat b o (Dq6 hx h))
  · show Sl w (ownQ d.b) (ownK d.b) 0 2 ((d.bs.map BoX.a).map BxA.cells)
    rw [← e2];exact Am3 (f:=BoX.cells) (e:=68) (fun _=>rfl) (by decide) hd.b (fun b o h=>hat b o (Dq8 h))
  · obtain ⟨y,hy,rfl⟩:=List.mem_map.1 hx
    have h1:=hd.bs y hy;rw [Ap3] at h1;exact Am3 (f:=strC) (e:=9) (fun _=>rfl) (by decide) h1 (fun b o h=>hat b o (CT8 hy (by rw [boB,Ap3];exact h)))
  · exact Am3 (f:=Tn.cells) (e:=70) (fun _=>rfl) (by decide) hd.c (fun b o h=>hat b o (Dq7 h))
  · show (d.bs.map BoX.a).length≤1000
    rw [List.length_map]
    have:=hd.few
    omega
  · have:=hd.few
    show d.cs.length≤1000
    omega
  · obtain ⟨y,hy,rfl⟩:=List.mem_map.1 hx
    exact ⟨(hd.ti y hy).1,(hd.ti y hy).2⟩
  · exact hd.tx t ht
end Go.Proofs.YtnmkdiagbkkmaabGreatDoor
namespace Go.Proofs.YtnmkdiagbkkmaabGreatDoor
open Go Go.Eng
theorem BO3:boolB Tryz.prog 4=true:=by kernel_rfl
theorem Dm1:aggB Tryz.prog 60=true:=by kernel_rfl
theorem Dm0:aggB Tryz.prog 66=true:=by kernel_rfl
theorem Dl9:aggB Tryz.prog 70=true:=by kernel_rfl
theorem Ds9 (a0:Int) (a1:Int) (a2:Int) (a3:Int) (c0:Int) (c1:Int) (c2:Int) (c3:Int):eqF Tryz.prog 8 60 [.int .i64 a0,.int .i64 a1,.int .i64 a2,.int .i64 a3] [.int .i64 c0,.int .i64 c1,.int .i64 c2,.int .i64 c3]=some (decide (a0=c0) && (decide (a1=c1) && (decide (a2=c2) && (decide (a3=c3) && true)))):=by kernel_rfl
theorem Ds8 (a0:Int) (a1:Int) (a2:Int) (a3:Int) (a4:Int) (a5:Int) (a6:Int) (a7:Int) (a8:Int) (c0:Int) (c1:Int) (c2:Int) (c3:Int) (c4:Int) (c5:Int) (c6:Int) (c7:Int) (c8:Int):eqF Tryz.prog 8 66 [.int .i64 a0,.int .i64 a1,.int .i64 a2,.int .i64 a3,.int .i64 a4,.int .i64 a5,.int .i64 a6,.int .i64 a7,.int .i64 a8] [.int .i64 c0,.int .i64 c1,.int .i64 c2,.int .i64 c3,.int .i64 c4,.int .i64 c5,.int .i64 c6,.int .i64 c7,.int .i64 c8]=some (((decide (a0=c0) && (decide (a1=c1) && true)) && ((decide (a2=c2) && (decide (a3=c3) && true)) && true)) && (((decide (a4=c4) && (decide (a5=c5) && true)) && ((decide (a6=c6) && (decide (a7=c7) && true)) && true)) && (decide (a8=c8) && true))):=by kernel_rfl
theorem Ds7 (a0:Int) (a1:ByteArray) (a2:ByteArray) (c0:Int) (c1:ByteArray) (c2:ByteArray):eqF Tryz.prog 8 70 [.int .i64 a0,.string a1,.string a2] [.int .i64 c0,.string c1,.string c2]=some (decide (a0=c0) && ((a1.toList == c1.toList) && ((a2.toList == c2.toList) && true))):=by kernel_rfl
theorem Co8:pairB Tryz.prog 23=true:=by kernel_rfl
theorem BH3:tyB Tryz.prog 62=some (true,13):=by kernel_rfl
instance:Tyc Tryz.prog 62 true 13:=⟨BH3⟩
end Go.Proofs.YtnmkdiagbkkmaabGreatDoor
namespace Go.Dk
open Go Go.Eng Go.RowKit Go.Pw1 Go.Hp
abbrev benS (d:DkX):Value:=.agg [.slice (ownQ d.v) d.vs.length (ownC d.v),.slice (ownQ d.b) d.bs.length (ownC d.b),.slice (ownQ d.c) d.cs.length (ownC d.c)].toArray
theorem BenA.b {W:World} {d:DkX} (h:BenA W d):Sl W (ownQ d.b) (ownK d.b) 0 2 (d.bs.map BoX.cellsS):=by
  have h:=h.m.bx;unfold DkX.mx at h;dsimp only at h;rw [List.map_map] at h;exact h
theorem BenA.bt {W:World} {d:DkX} (h:BenA W d):∀ x∈d.bs,Sl W (ownQ x.t) (ownK x.t) 0 1 (x.titles.map strC):=fun x hx=>h.m.ti x.a (List.mem_map_of_mem hx)
theorem BenA.c {W:World} {d:DkX} (h:BenA W d):Sl W (ownQ d.c) (ownK d.c) 0 3 (d.cs.map Tn.cells):=h.m.cd
theorem CX1 {d e:DkX} (h:d.pl=e.pl):d.vs.map VwX.pl=e.vs.map VwX.pl∧d.bs.map BoX.pl=e.bs.map BoX.pl∧d.cs=e.cs:=by
  unfold DkX.pl at h
  injection h with h1 h2
  injection h2 with h2 h3
  exact ⟨h1,h2,h3⟩
theorem Cm7 {α β:Type} {f:α→β} {l m:List α} (h:l.map f=m.map f) {k:Nat} (hk:k < l.length):∃ hk2:k < m.length,f l[k]=f m[k]:=by
  have hl:l.length=m.length:=by have:=congrArg List.length h;simpa using this
  refine ⟨by omega,?_⟩
  have:=congrArg (fun z=>z[k]?) h
  simp only [List.getElem?_map,List.getElem?_eq_getElem hk,List.getElem?_eq_getElem (show k < m.length by omega),Option.map_some] at this;exact Option.some.inj this
end Go.Dk
namespace Go.Proofs.YtnmkdiagbkkmaabGreatDoor
open Go Go.Eng Go.Dk Go.RowKit Go.Pw1 Go.Hp

theorem CU0 {d:DkX} (hd:DkOk d):benV d=benS d:=by
  unfold benV benS;rw [Ad2 hd.v,Ad2 hd.b,Ad2 hd.c]
set_option maxHeartbeats 2000000 in
theorem BP3 (d e:DkX) (hd:DkOk d) (hpl:d.pl=e.pl) (W:World) (h1:BenA W d) (h2:BenA W e):Calls Tryz.prog 20 #[benS d,benS e] W (Pure (.bool true) W):=by
  obtain ⟨hsv,hsb,hsc⟩:=CX1 hpl;have hlv:d.vs.length=e.vs.length:=by have:=congrArg List.length hsv;simpa using this
  have hlb:d.bs.length=e.bs.length:=by have:=congrArg List.length hsb;simpa using this
  have hfew:=hd.few;have hlc:d.cs.length=e.cs.length:=congrArg List.length hsc;refine Aa0 Tryz.func20 rfl rfl ?_;refine st ?_;refine zn (New.box rfl) (fun b2=>?_)
  refine zn (New.box rfl) (fun b3=>?_)
  refine Ae3 (dj:=23) false rfl (by simp [hlv]) ?_;refine su ?_;refine Ae3 (dj:=34) false rfl (by simp [hlb]) ?_;refine su ?_;refine RunC.cond rfl (fun h=>absurd h (by simp [hlc])) ?_;intro c0;clear c0;refine st ?_;refine Ad7 (d.vs.length) (fun k q=>(5,.int .i64 (k:Int))::q) (fun _=>_) (fun _=>[]) (fun _=>True) trivial rfl (zE 5 rfl rfl (zS 2 rfl (zS 3 rfl (Sub.nil _)))) (.cons .here rfl (.cons .here rfl .nil)) ?_;intro k kN kI;clear kI;refine su ?_;refine cn rfl ?_ ?_
  ·intro c1'
   have hk:k < d.vs.length:=by omega
   obtain ⟨hk2,hxy⟩:=Cm7 hsv hk;obtain ⟨x,hx⟩:∃ x,d.vs[k]=x:=⟨_,rfl⟩;obtain ⟨y,hy⟩:∃ y,e.vs[k]=y:=⟨_,rfl⟩;have hxm:x∈d.vs:=hx ▸ List.getElem_mem hk;have hym:y∈e.vs:=hy ▸ List.getElem_mem hk2;rw [hx,hy] at hxy;have hxn:x.p.things.length≤12:=hd.things x hxm;have hxp:x.p=y.p:=congrArg Vw.p hxy;have hxc:x.cuts=y.cuts:=congrArg Vw.cuts hxy;have hxu:x.up=y.up:=congrArg Vw.up hxy;refine RunC.skip ?_;refine RunE.next ?_;refine RunC.seq ?_;refine RunC.block ?_;refine RunC.seq ?_
   apply Ai8 (J:=J2 _ _ _ _ _ _) 13 Ai6 (.cons .here rfl (.cons .here rfl .nil))
   ·refine zw 0 ?_
    refine zw 1 ?_;refine zw 2 ?_;refine zv 3 rfl (Aa7 rfl rfl AF7 (by omega) (by omega) (h1.v.ptrM hk)) ?_;refine zv 4 rfl (Aa9 rfl (fun w hm=>h1.v.loadX (by decide) hm (by simp) BH3 hk hx)) ?_;refine zw 5 ?_;refine zw 6 ?_;refine zw 7 ?_;refine zv 8 rfl (Aa7 rfl rfl AF7 (by omega) (by omega) (h2.v.ptrM hk2)) ?_;refine zv 9 rfl (Aa9 rfl (fun w hm=>h2.v.loadX (by decide) hm (by simp) BH3 hk2 hy)) ?_;refine Ag0 (rs:=[10,11]) (by kernel_rfl) (by simp) (by kernel_rfl) (fun m hm=>?_)
    simp only [List.mem_cons,List.not_mem_nil,or_false] at hm
    rcases hm with rfl | rfl
    ·refine Ac2 rfl (New.alloc AL6) rfl rfl rfl (fun b6=>(Aa3 (.cons (.there .here) rfl (.cons (.there .here) rfl .nil)) (.cons .here rfl (.cons .here rfl .nil)) rfl ?_))
     refine zA 11 ?_;refine Ac2 rfl (New.alloc AL6) rfl rfl rfl (fun b7=>(Aa3 (.cons .here rfl (.cons (.there .here) rfl (.cons (.there .here) rfl .nil))) (.cons (.there .here) rfl (.cons (.there .here) rfl .nil)) rfl ?_))
     refine zA 12 ?_;refine Ab8 rfl (Sto.store rfl rfl (.there .here) BH3 rfl rfl) rfl rfl (Aa3 (.cons .here rfl (.cons (.there .here) rfl (.cons (.there .here) rfl .nil))) (.cons .here rfl (.cons .here rfl (.cons .here rfl .nil))) rfl ?_)
     refine zt ?_;refine zB 13 ?_;refine Ab8 rfl (Sto.store rfl rfl .here BH3 rfl rfl) rfl rfl (Ab7 ?_)
     refine zd ?_;exact Ag2 b6 b7 (Ac1 _) (Pick.refl _)
    refine Ac2 rfl (New.alloc AL6) rfl rfl rfl (fun b7=>(Aa3 (.cons .here rfl (.cons .here rfl (.cons .here rfl .nil))) (.cons (.there .here) rfl (.cons (.there .here) rfl .nil)) rfl ?_))
    refine zA 10 ?_;refine Ac2 rfl (New.alloc AL6) rfl rfl rfl (fun b6=>(Aa3 (.cons (.there .here) rfl (.cons (.there .here) rfl (.cons (.there .here) rfl .nil))) (.cons .here rfl (.cons .here rfl (.cons .here rfl .nil))) rfl ?_))
    refine zA 12 ?_;refine Ab8 rfl (Sto.store rfl rfl .here BH3 rfl rfl) rfl rfl (Aa3 (.cons (.there .here) rfl (.cons (.there .here) rfl (.cons (.there .here) rfl .nil))) (.cons .here rfl (.cons .here rfl (.cons .here rfl .nil))) rfl ?_)
    refine zt ?_;refine zB 13 ?_;refine Ab8 rfl (Sto.store rfl rfl (.there .here) BH3 rfl rfl) rfl rfl (Ab7 ?_)
    refine zd ?_;exact Ag2 b6 b7 (zS 7 rfl (zS 6 rfl (zS 61 rfl (zS 60 rfl (zS 59 rfl (zS 58 rfl (zS 57 rfl (zS 56 rfl (zS 55 rfl (zS 54 rfl (zS 53 rfl (zS 52 rfl (Sub.skip rfl (Sub.skip rfl (Sub.skip rfl (Sub.skip rfl (Sub.skip rfl (Sub.skip rfl (Sub.skip rfl (Sub.skip rfl (Sub.skip rfl (Sub.skip rfl (Sub.skip rfl (Sub.skip rfl (Ac1 _))))))))))))))))))))))))) (.cons (.there .here) rfl (.cons .here rfl (.cons .here rfl (.cons .here rfl .nil))))
   refine J2.out (fun b6 b7=>?_)
   refine RunE.next ?_;refine RunC.seq ?_
   apply Ai8 (J:=J2 _ _ _ _ _ _) 7 Ai6 (.cons .here rfl (.cons .here rfl (.cons .here rfl (.cons .here rfl .nil))))
   ·refine zw 0 ?_
    refine zw 1 ?_;refine zw 2 ?_;refine zw 3 ?_;refine Ag0 (rs:=[4,5]) (by kernel_rfl) (by simp) (by kernel_rfl) (fun m hm=>?_)
    simp only [List.mem_cons,List.not_mem_nil,or_false] at hm
    rcases hm with rfl | rfl
    ·refine Ac2 rfl (New.alloc AQ0) rfl rfl rfl (fun b8=>(Aa3 (.cons (.there .here) rfl (.cons (.there .here) rfl (.cons (.there .here) rfl (.cons (.there .here) rfl .nil)))) (.cons .here rfl (.cons .here rfl (.cons .here rfl (.cons .here rfl .nil)))) rfl ?_))
     refine zA 5 ?_;refine Ac2 rfl (New.alloc AQ0) rfl rfl rfl (fun b9=>(Aa3 (.cons .here rfl (.cons (.there .here) rfl (.cons (.there .here) rfl (.cons (.there .here) rfl (.cons (.there .here) rfl .nil))))) (.cons (.there .here) rfl (.cons (.there .here) rfl (.cons (.there .here) rfl (.cons (.there .here) rfl .nil)))) rfl ?_))
     refine zA 6 ?_;refine Ab8 rfl (Sto.store rfl rfl (.there .here) AQ1 rfl rfl) rfl rfl (Aa3 (.cons .here rfl (.cons (.there .here) rfl (.cons (.there .here) rfl (.cons (.there .here) rfl (.cons (.there .here) rfl .nil))))) (.cons .here rfl (.cons .here rfl (.cons .here rfl (.cons .here rfl (.cons .here rfl .nil))))) rfl ?_)
     refine zt ?_;refine zB 7 ?_;refine Ab8 rfl (Sto.store rfl rfl .here AQ1 rfl rfl) rfl rfl (Ab7 ?_)
     refine zd ?_;exact Ag2 b8 b9 (Ac1 _) (Pick.refl _)
    refine Ac2 rfl (New.alloc AQ0) rfl rfl rfl (fun b9=>(Aa3 (.cons .here rfl (.cons .here rfl (.cons .here rfl (.cons .here rfl (.cons .here rfl .nil))))) (.cons (.there .here) rfl (.cons (.there .here) rfl (.cons (.there .here) rfl (.cons (.there .here) rfl .nil)))) rfl ?_))
    refine zA 4 ?_;refine Ac2 rfl (New.alloc AQ0) rfl rfl rfl (fun b8=>(Aa3 (.cons (.there .here) rfl (.cons (.there .here) rfl (.cons (.there .here) rfl (.cons (.there .here) rfl (.cons (.there .here) rfl .nil))))) (.cons .here rfl (.cons .here rfl (.cons .here rfl (.cons .here rfl (.cons .here rfl .nil))))) rfl ?_))
    refine zA 6 ?_;refine Ab8 rfl (Sto.store rfl rfl .here AQ1 rfl rfl) rfl rfl (Aa3 (.cons (.there .here) rfl (.cons (.there .here) rfl (.cons (.there .here) rfl (.cons (.there .here) rfl (.cons (.there .here) rfl .nil))))) (.cons .here rfl (.cons .here rfl (.cons .here rfl (.cons .here rfl (.cons .here rfl .nil))))) rfl ?_)
    refine zt ?_;refine zB 7 ?_;refine Ab8 rfl (Sto.store rfl rfl (.there .here) AQ1 rfl rfl) rfl rfl (Ab7 ?_)
    refine zd ?_;exact Ag2 b8 b9 (zS 9 rfl (zS 8 rfl (zS 65 rfl (zS 64 rfl (zS 63 rfl (zS 62 rfl (Sub.skip rfl (Sub.skip rfl (Sub.skip rfl (Sub.skip rfl (Sub.skip rfl (Sub.skip rfl (Ac1 _))))))))))))) (.cons (.there .here) rfl (.cons .here rfl (.cons .here rfl (.cons .here rfl (.cons .here rfl (.cons .here rfl .nil))))))
   refine J2.out (fun b8 b9=>?_)
   refine su ?_;refine lv (AH8 rfl rfl BO3) ?_;refine Ae3 (dj:=71) false rfl (by simp [hxu]) ?_;refine su ?_;refine lv (Az9 rfl rfl Dm1 (Ds9 _ _ _ _ _ _ _ _ )) ?_;refine Ae3 (dj:=78) false rfl (by simp [hxc]) ?_;refine su ?_;refine lv (Az8 rfl rfl Co8) ?_;refine Ae3 (dj:=85) false rfl (by simp [hxp]) ?_;refine su ?_;refine lv (Az8 rfl rfl Co8) ?_;refine Ae3 (dj:=92) false rfl (by simp [hxp]) ?_;refine su ?_;refine Ae3 (dj:=99) false rfl (by simp [hxp]) ?_;refine su ?_;refine Ae3 (dj:=106) false rfl (by simp [hxp]) ?_;refine su ?_;refine Ae3 (dj:=113) false rfl (by simp [hxp]) ?_;refine su ?_;refine RunC.cond rfl (fun h=>absurd h (by simp [hxp])) ?_;intro c2;clear c2;refine st ?_;refine Ad7 (x.p.things.length) (fun j q=>(10,.int .i64 (j:Int))::q) (fun _=>_) (fun _=>[]) (fun _=>True) trivial rfl (zE 10 rfl rfl (zS 2 rfl (zS 3 rfl (zS 5 rfl (zS 6 rfl (zS 7 rfl (zS 8 rfl (zS 9 rfl (Sub.nil _))))))))) (.cons .here rfl (.cons .here rfl (.cons .here rfl (.cons .here rfl (.cons .here rfl (.cons .here rfl .nil)))))) ?_;intro j jN jI;clear jI;refine su ?_;refine cn rfl ?_ ?_
   ·intro c3'
    have hj:j < x.p.things.length:=by omega
    have hj2:j < y.p.things.length:=by (rw [← hxp];exact hj)
    obtain ⟨u,hu⟩:∃ u,x.p.things[j]=u:=⟨_,rfl⟩;have hu2:y.p.things[j]=u:=by (rw [← hu];congr 1;rw [hxp])
    refine st ?_;refine Ac3 10 Ai6 (.cons .here rfl (.cons .here rfl (.cons .here rfl (.cons .here rfl (.cons .here rfl (.cons .here rfl .nil)))))) ?_;refine zw 0 ?_;refine zw 1 ?_;refine zw 2 ?_;refine zv 3 rfl (Aa7 rfl rfl AB4 (by omega) (by omega) ((h1.t x hxm).ptrM hj)) ?_;refine zv 4 rfl (Aa9 rfl (fun w hm=>(h1.t x hxm).loadX (by decide) hm (by simp) Ay1 hj hu)) ?_;refine zw 5 ?_;refine zw 6 ?_;refine zw 7 ?_;refine zv 8 rfl (Aa7 rfl rfl AB4 (by omega) (by omega) ((h2.t y hym).ptrM hj2)) ?_;refine zv 9 rfl (Aa9 rfl (fun w hm=>(h2.t y hym).loadX (by decide) hm (by simp) Ay1 hj2 hu2)) ?_;refine zt ?_;refine zo 10 rfl (Az9 rfl rfl Dm0 (Ds8 _ _ _ _ _ _ _ _ _ _ _ _ _ _ _ _ _ _ )) ?_;refine zd ?_;refine st ?_;refine RunC.cond rfl (fun h=>absurd h (by simp)) ?_;intro c4;clear c4;refine st ?_;refine lv (Val.add rfl rfl (IntWalk.i64_in _ ⟨by omega,by omega⟩)) ?_;exact Ac7 (by omega) trivial rfl (zE 10 rfl rfl (zS 2 rfl (zS 3 rfl (zS 5 rfl (zS 6 rfl (zS 7 rfl (zS 8 rfl (zS 9 rfl (Sub.nil _))))))))) (.cons .here rfl (.cons .here rfl (.cons .here rfl (.cons .here rfl (.cons .here rfl (.cons .here rfl .nil))))))
   intro c3';refine RunC.exit ?_;refine su ?_;refine Ab0 ?_;refine st ?_;refine lv (Val.add rfl rfl (IntWalk.i64_in _ ⟨by omega,by omega⟩)) ?_;exact Ac7 (by omega) trivial rfl (zE 5 rfl rfl (zS 2 rfl (zS 3 rfl (Sub.nil _)))) (.cons (.there (.there (.there (.there .here)))) rfl (.cons (.there (.there (.there (.there .here)))) rfl .nil))
  intro c1';refine RunC.exit ?_;refine su ?_;refine Ab0 ?_;refine st ?_;refine Ad7 (d.bs.length) (fun k q=>(11,.int .i64 (k:Int))::q) (fun _=>_) (fun _=>[]) (fun _=>True) trivial rfl (zE 11 rfl rfl (zS 2 rfl (zS 3 rfl (Sub.nil _)))) (.cons .here rfl (.cons .here rfl .nil)) ?_;intro k kN kI;clear kI;refine su ?_;refine cn rfl ?_ ?_
  ·intro c5'
   have hk:k < d.bs.length:=by omega
   obtain ⟨hk2,hxy⟩:=Cm7 hsb hk;obtain ⟨x,hx⟩:∃ x,d.bs[k]=x:=⟨_,rfl⟩;obtain ⟨y,hy⟩:∃ y,e.bs[k]=y:=⟨_,rfl⟩;have hxm:x∈d.bs:=hx ▸ List.getElem_mem hk;have hym:y∈e.bs:=hy ▸ List.getElem_mem hk2;rw [hx,hy] at hxy;have hxn:x.titles.length≤1000:=(hd.ti x hxm).1;have hxo:x.a.bx.colour=y.a.bx.colour:=congrArg Bx.colour hxy;have hxt:x.titles=y.titles:=congrArg Bx.titles hxy;have hxt2:x.a.bx.titles=y.a.bx.titles:=hxt;have hxa:x.a.bx.titles.length=x.titles.length:=rfl;have hya:y.a.bx.titles.length=y.titles.length:=rfl;refine RunC.skip ?_;refine RunE.next ?_;refine RunC.seq ?_;refine RunC.block ?_;refine RunC.seq ?_
   apply Ai8 (J:=J2 _ _ _ _ _ _) 15 Ai6 (.cons .here rfl (.cons .here rfl .nil))
   ·refine zw 0 ?_
    refine zw 1 ?_;refine zw 2 ?_;refine zw 3 ?_;refine zv 4 rfl (Aa7 rfl rfl Bh1 (by omega) (by omega) (h1.b.ptrM hk)) ?_;refine zv 5 rfl (Aa9 rfl (fun w hm=>h1.b.loadX (by decide) hm (by simp) Bh0 hk hx)) ?_;refine zw 6 ?_;refine zw 7 ?_;refine zw 8 ?_;refine zw 9 ?_;refine zv 10 rfl (Aa7 rfl rfl Bh1 (by omega) (by omega) (h2.b.ptrM hk2)) ?_;refine zv 11 rfl (Aa9 rfl (fun w hm=>h2.b.loadX (by decide) hm (by simp) Bh0 hk2 hy)) ?_;refine Ag0 (rs:=[12,13]) (by kernel_rfl) (by simp) (by kernel_rfl) (fun m hm=>?_)
    simp only [List.mem_cons,List.not_mem_nil,or_false] at hm
    rcases hm with rfl | rfl
    ·refine Ac2 rfl (New.alloc AF8) rfl rfl rfl (fun b12=>(Aa3 (.cons (.there .here) rfl (.cons (.there .here) rfl .nil)) (.cons .here rfl (.cons .here rfl .nil)) rfl ?_))
     refine zA 13 ?_;refine Ac2 rfl (New.alloc AF8) rfl rfl rfl (fun b13=>(Aa3 (.cons .here rfl (.cons (.there .here) rfl (.cons (.there .here) rfl .nil))) (.cons (.there .here) rfl (.cons (.there .here) rfl .nil)) rfl ?_))
     refine zA 14 ?_;refine Ab8 rfl (Sto.store rfl rfl (.there .here) Bh0 rfl rfl) rfl rfl (Aa3 (.cons .here rfl (.cons (.there .here) rfl (.cons (.there .here) rfl .nil))) (.cons .here rfl (.cons .here rfl (.cons .here rfl .nil))) rfl ?_)
     refine zt ?_;refine zB 15 ?_;refine Ab8 rfl (Sto.store rfl rfl .here Bh0 rfl rfl) rfl rfl (Ab7 ?_)
     refine zd ?_;exact Ag2 b12 b13 (Ac1 _) (Pick.refl _)
    refine Ac2 rfl (New.alloc AF8) rfl rfl rfl (fun b13=>(Aa3 (.cons .here rfl (.cons .here rfl (.cons .here rfl .nil))) (.cons (.there .here) rfl (.cons (.there .here) rfl .nil)) rfl ?_))
    refine zA 12 ?_;refine Ac2 rfl (New.alloc AF8) rfl rfl rfl (fun b12=>(Aa3 (.cons (.there .here) rfl (.cons (.there .here) rfl (.cons (.there .here) rfl .nil))) (.cons .here rfl (.cons .here rfl (.cons .here rfl .nil))) rfl ?_))
    refine zA 14 ?_;refine Ab8 rfl (Sto.store rfl rfl .here Bh0 rfl rfl) rfl rfl (Aa3 (.cons (.there .here) rfl (.cons (.there .here) rfl (.cons (.there .here) rfl .nil))) (.cons .here rfl (.cons .here rfl (.cons .here rfl .nil))) rfl ?_)
    refine zt ?_;refine zB 15 ?_;refine Ab8 rfl (Sto.store rfl rfl (.there .here) Bh0 rfl rfl) rfl rfl (Ab7 ?_)
    refine zd ?_;exact Ag2 b12 b13 (zS 13 rfl (zS 12 rfl (zS 159 rfl (zS 158 rfl (zS 157 rfl (zS 156 rfl (zS 155 rfl (zS 154 rfl (zS 153 rfl (zS 152 rfl (zS 151 rfl (zS 150 rfl (zS 149 rfl (zS 148 rfl (Sub.skip rfl (Sub.skip rfl (Sub.skip rfl (Sub.skip rfl (Sub.skip rfl (Sub.skip rfl (Sub.skip rfl (Sub.skip rfl (Sub.skip rfl (Sub.skip rfl (Sub.skip rfl (Sub.skip rfl (Sub.skip rfl (Sub.skip rfl (Ac1 _))))))))))))))))))))))))))))) (.cons (.there .here) rfl (.cons .here rfl (.cons .here rfl (.cons .here rfl .nil))))
   refine J2.out (fun b12 b13=>?_)
   refine su ?_;refine Ae3 (dj:=165) false rfl (by simp [hxo]) ?_;refine su ?_;refine RunC.cond rfl (fun h=>absurd h (by simp [hxt2])) ?_;intro c6;clear c6;refine st ?_;refine Ad7 (x.titles.length) (fun j q=>(14,.int .i64 (j:Int))::q) (fun _=>_) (fun _=>[]) (fun _=>True) trivial rfl (zE 14 rfl rfl (zS 2 rfl (zS 3 rfl (zS 11 rfl (zS 12 rfl (zS 13 rfl (Sub.nil _))))))) (.cons .here rfl (.cons .here rfl (.cons .here rfl (.cons .here rfl .nil)))) ?_;intro j jN jI;clear jI;refine su ?_;refine cn rfl ?_ ?_
   ·intro c7'
    have hj:j < x.titles.length:=by omega
    have hj2:j < y.titles.length:=by (rw [← hxt];exact hj)
    obtain ⟨u,hu⟩:∃ u,x.titles[j]=u:=⟨_,rfl⟩;have hu2:y.titles[j]=u:=by (rw [← hu];congr 1;rw [hxt])
    refine st ?_;refine Ac3 10 Ai6 (.cons .here rfl (.cons .here rfl (.cons .here rfl (.cons .here rfl .nil)))) ?_;refine zw 0 ?_;refine zw 1 ?_;refine zw 2 ?_;refine zv 3 rfl (Aa7 rfl rfl An6 (by omega) (by omega) ((h1.bt x hxm).ptrM hj)) ?_;refine zv 4 rfl (Aa9 rfl (fun w hm=>Sl.loadM1 (h1.bt x hxm) (by decide) hm (by simp) AC9 hj (v:=.string (bs u)) (by simp [strC,hu]))) ?_;refine zw 5 ?_;refine zw 6 ?_;refine zw 7 ?_;refine zv 8 rfl (Aa7 rfl rfl An6 (by omega) (by omega) ((h2.bt y hym).ptrM hj2)) ?_;refine zv 9 rfl (Aa9 rfl (fun w hm=>Sl.loadM1 (h2.bt y hym) (by decide) hm (by simp) AC9 hj2 (v:=.string (bs u)) (by simp [strC,hu2]))) ?_;refine zt ?_;refine zo 10 rfl (Ap1 rfl rfl) ?_;refine zd ?_;refine st ?_;refine RunC.cond rfl (fun h=>absurd h (by simp)) ?_;intro c8;clear c8;refine st ?_;refine lv (Val.add rfl rfl (IntWalk.i64_in _ ⟨by omega,by omega⟩)) ?_;exact Ac7 (by omega) trivial rfl (zE 14 rfl rfl (zS 2 rfl (zS 3 rfl (zS 11 rfl (zS 12 rfl (zS 13 rfl (Sub.nil _))))))) (.cons .here rfl (.cons .here rfl (.cons .here rfl (.cons .here rfl .nil))))
   intro c7';refine RunC.exit ?_;refine su ?_;refine Ab0 ?_;refine st ?_;refine lv (Val.add rfl rfl (IntWalk.i64_in _ ⟨by omega,by omega⟩)) ?_;exact Ac7 (by omega) trivial rfl (zE 11 rfl rfl (zS 2 rfl (zS 3 rfl (Sub.nil _)))) (.cons (.there (.there .here)) rfl (.cons (.there (.there .here)) rfl .nil))
  intro c5';refine RunC.exit ?_;refine su ?_;refine Ab0 ?_;refine st ?_;refine Ad7 (d.cs.length) (fun k q=>(15,.int .i64 (k:Int))::q) (fun _=>_) (fun _=>[]) (fun _=>True) trivial rfl (zE 15 rfl rfl (zS 2 rfl (zS 3 rfl (Sub.nil _)))) (.cons .here rfl (.cons .here rfl .nil)) ?_;intro k kN kI;clear kI;refine su ?_;refine cn rfl ?_ ?_
  ·intro c9'
   have hk:k < d.cs.length:=by omega
   have hk2:k < e.cs.length:=by omega
   obtain ⟨u,hu⟩:∃ u,d.cs[k]=u:=⟨_,rfl⟩;have hu2:e.cs[k]=u:=by (rw [← hu];congr 1;rw [hsc])
   refine st ?_;refine Ac3 12 Ai6 (.cons .here rfl (.cons .here rfl .nil)) ?_;refine zw 0 ?_;refine zw 1 ?_;refine zw 2 ?_;refine zw 3 ?_;refine zv 4 rfl (Aa7 rfl rfl AV1 (by omega) (by omega) (h1.c.ptrM hk)) ?_;refine zv 5 rfl (Aa9 rfl (fun w hm=>h1.c.loadX (by decide) hm (by simp) BY0 hk hu)) ?_;refine zw 6 ?_;refine zw 7 ?_;refine zw 8 ?_;refine zw 9 ?_;refine zv 10 rfl (Aa7 rfl rfl AV1 (by omega) (by omega) (h2.c.ptrM hk2)) ?_;refine zv 11 rfl (Aa9 rfl (fun w hm=>h2.c.loadX (by decide) hm (by simp) BY0 hk2 hu2)) ?_;refine zt ?_;refine zo 12 rfl (Az9 rfl rfl Dl9 (Ds7 _ _ _ _ _ _ )) ?_;refine zd ?_;refine st ?_;refine RunC.cond rfl (fun h=>absurd h (by simp)) ?_;intro c10;clear c10;refine st ?_;refine lv (Val.add rfl rfl (IntWalk.i64_in _ ⟨by omega,by omega⟩)) ?_;exact Ac7 (by omega) trivial rfl (zE 15 rfl rfl (zS 2 rfl (zS 3 rfl (Sub.nil _)))) (.cons .here rfl (.cons .here rfl .nil))
  intro c9';refine RunC.exit ?_;refine su ?_;refine Ab0 ?_;refine su ?_;exact Aa4 (.r1 rfl (.tmp rfl)) (by first | rfl | simp)
end Go.Proofs.YtnmkdiagbkkmaabGreatDoor
namespace Go.Dk
open Go Go.Eng Go.RowKit Go.Pw1 Go.Hp
def firstW (s:Str):Str:=(blanks s []).getD 0 []
def asksX (s:Str):Bool:=decide (firstW s=wFar) || decide (firstW s=wMoved) || decide (firstW s=wHurts) || decide (firstW s=wDeep) || decide (firstW s=wWays) || decide (firstW s=wWhich)
theorem CB6 {c:Cd} {b b':Bn} {s r:Str} (ha:asksX s=true) (e:lineX c b s = .ok (b',r)):b'=b:=by
  unfold asksX at ha;simp only [Bool.or_eq_true,decide_eq_true_eq] at ha;unfold lineX at e
  split at e
  · cases e
  · split at e
    · cases e
    · rename_i w hw
      obtain ⟨rfl,-⟩:=AY3 hw;have hf:(blanks s []).getD 0 []=firstW s:=rfl;rw [hf] at e
      have hne:firstW s ≠ wBox∧firstW s ≠ wCard:=by
        rcases ha with ((((h | h) | h) | h) | h) | h <;> rw [h] <;> decide
      rw [if_neg hne.1,if_neg hne.2] at e
      have hv:∃ v,verbX (firstW s)=some v∧∀ n b' r,v.does c b n = .ok (b',r)→b'=b:=by
        rcases ha with ((((h | h) | h) | h) | h) | h <;> rw [h]
        · exact ⟨_,rfl,fun n b' r h=>Bj9 h⟩
        · exact ⟨_,rfl,fun n b' r h=>AS9 h⟩
        · exact ⟨_,rfl,fun n b' r h=>AT0 h⟩
        · exact ⟨_,rfl,fun n b' r h=>Ba1 h⟩
        · exact ⟨_,rfl,fun n b' r h=>Ba0 h⟩
        · exact ⟨_,rfl,fun n b' r h=>AS8 h⟩
      obtain ⟨v,hv,hd⟩:=hv;rw [hv] at e;dsimp only at e
      split at e
      · cases e
      · split at e
        · cases e
        · split at e
          · cases e
          · exact hd _ _ _ e
def keptX (c:Cd) (b:Bn) (s:Str):Bool:=decide ((stepX c b s).2.2=0) && !asksX s
theorem CZ4 {c:Cd} {b:Bn} {s:Str} (h:keptX c b s=false):(stepX c b s).1=b:=by
  unfold keptX stepX at h;unfold stepX
  cases e:lineX c b s with
  | error k=>rfl
  | ok y =>
    rw [e] at h;simp at h
    exact CB6 h e
theorem CO1 {c:Cd} {b:Bn} {s:Str} (h:(stepX c b s).2.2 ≠ 0):(stepX c b s).2.1=[]:=by
  unfold stepX at h ⊢
  cases e:lineX c b s with
  | error k=>rfl
  | ok y=>rw [e] at h;exact absurd rfl h
def playX (c:Cd):Bn→List Str→Bn×List Str
  | b,[]=>(b,[])
  | b,s::l=>((playX c (stepX c b s).1 l).1,echoX (stepX c b s).2.1 (stepX c b s).2.2::(playX c (stepX c b s).1 l).2)
theorem By5 (c:Cd):∀ (l:List Str) (b:Bn) (s:Str),playX c b (l++[s])=((stepX c (playX c b l).1 s).1,(playX c b l).2++[echoX (stepX c (playX c b l).1 s).2.1 (stepX c (playX c b l).1 s).2.2])
  | [],b,s=>rfl
  | t::l,b,s=>by
    have ih:=By5 c l (stepX c b t).1 s;simp only [List.cons_append,playX,ih]
theorem AW8 (c:Cd):∀ (l:List Str) (b:Bn),(playX c b l).2.length=l.length
  | [],_=>rfl
  | s::l,b=>by simp only [playX,List.length_cons];rw [AW8 c l]
end Go.Dk
namespace Go.Proofs.YtnmkdiagbkkmaabGreatDoor
open Go Go.Eng Go.Dk Go.RowKit Go.Pw1 Go.Hp

end Go.Proofs.YtnmkdiagbkkmaabGreatDoor
namespace Go.Dk
open Go Go.Eng Go.RowKit Go.Pw1 Go.Hp
abbrev RunZ:=Nat×DkX×Eng.Own×List Str
structure RunOk (c:Cd) (l:List Str) (d:DkX) (o:Eng.Own) (t:List Str):Prop where
  dk:DkOk d
  own:OwnOk 1 o t.length (t.map strC).flatten
  pl:playX (bareC c) noBn l=(d.pl,t)
theorem Cm8 (c:Cd):RunOk c [] noDk none []:=⟨Cq7,OwnOk.start,rfl⟩
theorem BS2 {c:Cd} {l:List Str} {d d':DkX} {o o':Eng.Own} {t:List Str} {v r r1:Str} {e:Int} (h:RunOk c l d o t) (hd:DkOk d') (hs:(d'.pl,r,e)=stepX (bareC c) d.pl v) (hr:echoX r e=r1) (ho:OwnOk 1 o' (t.length + 1) ((t.map strC).flatten++strC r1)):RunOk c (l++[v]) d' o' (t++[r1]) :=
  ⟨hd,by rw [List.length_append,List.length_singleton,List.map_append,List.flatten_append];simpa using ho,by
    rw [By5,h.pl];dsimp only;rw [← hs,← hr]⟩
end Go.Dk
namespace Go.Proofs.YtnmkdiagbkkmaabGreatDoor
open Go Go.Eng Go.Dk Go.RowKit Go.Pw1 Go.Hp

set_option maxHeartbeats 2000000 in
theorem CZ0 (c:Cd) (q:Option Addr) (b o cap:Nat) (hq:q=none→cap=0) (l:List Str) (ql:Option Addr) (bl ol cl:Nat) (W:World) (hL:Lw Tryz.prog W) (hS:Sl W q b o 9 (c.p.things.map Th.cells)) (hl:c.p.things.length≤1000) (hls:Sl W ql bl ol 1 (l.map strC)) (hln:l.length≤10000) (hlv:∀ s∈l,s.length≤100000) (hc:cardIs c=true) :
    Calls Tryz.prog 18 #[c.v q cap,.slice ql l.length cl] W (Grow W [] (fun z:RunZ=>.tuple #[pV z.1,ownV z.2.2.1 z.2.2.2.length]) (fun z=>(z.1,dkO z.2.1 c)::(ownB 9 z.2.2.1 (z.2.2.2.map strC).flatten++(dkB z.2.1++[]))) (fun z=>RunOk c l z.2.1 z.2.2.1 z.2.2.2)):=by
  have hund:Tryz.prog.underlying 33=some (.pointer 86):=by kernel_rfl
  refine Aa0 Tryz.func18 rfl rfl ?_;refine st ?_;refine zn (New.box rfl) (fun b2=>?_)
  refine Ag1 (zF rfl BV2) rfl rfl rfl (fun w hm=>CU5 c q b o cap w (hS.mono (by decide) hm (by simp)) hq (by omega) hc) (fun b15=>?_)
  refine st ?_;refine lv (Ak5 rfl hund) ?_;refine Aq3 rfl ?_;refine su ?_;refine Ag3 (X:=DkX×Eng.Own×List Str) (n0:=[(b2,_)]) (l.length) (fun k y q=>(22,.int .i64 (k:Int))::(8,ownV y.2.1 y.2.2.length)::q) (fun _ _=>_) (fun k y=>[(b15,dkO y.1 c)]) (fun k y=>ownB 9 y.2.1 (y.2.2.map strC).flatten++(dkB y.1++[])) (fun k y=>RunOk c (l.take k) y.1 y.2.1 y.2.2) (noDk,none,[]) (Cm8 c) rfl (zE 22 rfl rfl (zE 8 rfl rfl (zS 1 rfl (zS 6 rfl (zS 20 rfl (zS 21 rfl (Sub.nil _))))))) (.cons .here rfl (.cons .here rfl (Pick.same rfl))) ?_;intro k y kN kI;obtain ⟨yd,yo,yl⟩:=y;dsimp only at kI ⊢;have hyl:yl.length≤l.length:=by (have h9:=AW8 (bareC c) (l.take k) noBn;rw [kI.pl,List.length_take] at h9;dsimp only at h9;omega)
  refine st ?_;refine cn rfl ?_ ?_
  ·intro c1'
   have hk:k < l.length:=by omega
   obtain ⟨v,hv⟩:∃ v,l[k]=v:=⟨_,rfl⟩;have hvm:v∈l:=hv ▸ List.getElem_mem hk;refine st ?_;refine lv (Aa7 rfl rfl An6 (by omega) (by omega) (hls.ptrM hk)) ?_;refine lv (Aa9 rfl (fun w hm=>Sl.loadM1 hls (by decide) hm (by simp) AC9 hk (v:=.string (bs v)) (by simp [strC,hv]))) ?_;refine Aj9 (zF rfl BV0) rfl rfl rfl (fun w hm=>(As2 (nw':=fun z:DkX×Str×Int=>(b15,dkO z.1 c)::(b2,.cells (cellsL (c.v q cap)).toArray 28 (0,0))::(ownB 9 yo (yl.map strC).flatten++(dkB z.1++[]))) (AK6 v (hlv v hvm) b15 yd c ((b2,.cells (cellsL (c.v q cap)).toArray 28 (0,0))::ownB 9 yo (yl.map strC).flatten) W w hL kI.dk (hm.pick (Pick.cnt fun x=>by simp only [nC,List.map_append,List.flatten_append,List.map_cons,List.map_nil,List.flatten_cons,List.flatten_nil,List.append_nil,dkM];omega))) (fun _=>(Pick.cnt fun x=>by simp only [nC,List.map_append,List.flatten_append,List.map_cons,List.map_nil,List.flatten_cons,List.flatten_nil,List.append_nil,dkM];omega)))) (fun z29 hz29=>?_)
   obtain ⟨hzd,hzs⟩:=hz29;have hcod:Cod z29.2.2:=(by have h2:=Bp9 kI.dk.sm (bareC c) v;rw [← hzs] at h2;exact h2);have hit:=AE0 hcod.in64;refine st ?_;refine cn rfl ?_ ?_
   ·intro c2'
    have hec:echoX z29.2.1 z29.2.2=([101,114,114,111,114,32]++Lib.itoa z29.2.2):=by (unfold echoX;rw [if_neg (by simpa using c2')];simp [sayX,wError])
    refine st ?_;refine zc (zF rfl Bm5) (fun w hm=>Ax2 z29.2.2 hcod.in64 w (hL.mono hm)) ?_;refine lv (Ar2 rfl rfl (by simp;omega)) ?_;refine zn (New.buildSlice (parts:=[(0,.tmp 38)]) rfl An6 AY1 rfl rfl rfl rfl) (fun b39=>?_)
    refine RunL.append (A:=[(b39,_),(b15,_),(b2,_)]) (B:=_) (x:=yo) (ys:=strC ([101,114,114,111,114,32]++Lib.itoa z29.2.2)) BO7 rfl rfl rfl kI.own rfl (fun h=>by cases h) (fun w hm=>Al6 (hm.at (.head _))) (Ap7 rfl) (by simp only [maxLen];omega) (by omega) rfl (fun z40 hz40=>?_)
    refine st ?_;refine lv (Val.add rfl rfl (IntWalk.i64_in _ ⟨by omega,by omega⟩)) ?_;exact Ad1 (z29.1,z40,yl++[([101,114,114,111,114,32]++Lib.itoa z29.2.2)]) (by omega) (by rw [List.take_succ_eq_append_getElem hk,hv];exact BS2 kI hzd hzs hec hz40) rfl (zE 22 rfl rfl (zE 8 rfl (by simp) (zS 1 rfl (zS 6 rfl (zS 20 rfl (zS 21 rfl (Sub.nil _))))))) (Pick.cnt fun x=>by simp only [nC,List.map_append,List.flatten_append,List.map_cons,List.map_nil,List.flatten_cons,List.flatten_nil,List.append_nil,dkM];omega)
   intro c2';have hec:echoX z29.2.1 z29.2.2=z29.2.1:=by (unfold echoX;rw [if_pos (by simpa using c2')])
   refine st ?_;refine zn (New.buildSlice (parts:=[(0,.tmp 38)]) rfl An6 AY1 rfl rfl rfl rfl) (fun b39=>?_)
   refine RunL.append (A:=[(b39,_),(b15,_),(b2,_)]) (B:=_) (x:=yo) (ys:=strC z29.2.1) BO7 rfl rfl rfl kI.own rfl (fun h=>by cases h) (fun w hm=>Al6 (hm.at (.head _))) (Ap7 rfl) (by simp only [maxLen];omega) (by omega) rfl (fun z40 hz40=>?_)
   refine st ?_;refine lv (Val.add rfl rfl (IntWalk.i64_in _ ⟨by omega,by omega⟩)) ?_;exact Ad1 (z29.1,z40,yl++[z29.2.1]) (by omega) (by rw [List.take_succ_eq_append_getElem hk,hv];exact BS2 kI hzd hzs hec hz40) rfl (zE 22 rfl rfl (zE 8 rfl (by simp) (zS 1 rfl (zS 6 rfl (zS 20 rfl (zS 21 rfl (Sub.nil _))))))) (Pick.cnt fun x=>by simp only [nC,List.map_append,List.flatten_append,List.map_cons,List.map_nil,List.flatten_cons,List.flatten_nil,List.append_nil,dkM];omega)
  intro c1';have hk:k=l.length:=by omega
  rw [hk,List.take_length] at kI;refine RunC.exit ?_;refine su ?_;refine Ab0 ?_;refine su ?_;exact BG2 (b15,yd,yo,yl) kI (.r2 rfl (.tmp rfl) (.tmp rfl)) rfl (.cons .here rfl (Pick.skip (Pick.refl _)))
end Go.Proofs.YtnmkdiagbkkmaabGreatDoor
namespace Go.Eng
open Go Go.RowKit
end Go.Eng
namespace Go.Dk
open Go Go.Eng Go.RowKit Go.Pw1 Go.Hp
structure CutOk (c:Cd) (pre:List Str) (d:DkX) (ko ro:Eng.Own) (kl rl:List Str):Prop where
  dk:DkOk d
  o1:OwnOk 1 ko kl.length (kl.map strC).flatten
  o2:OwnOk 1 ro rl.length (rl.map strC).flatten
  pl:playX (bareC c) noBn kl=(d.pl,rl)
  n:kl.length≤pre.length
  s:∀ s∈kl,s∈pre
theorem CutOk.len {c:Cd} {pre:List Str} {d:DkX} {ko ro:Eng.Own} {kl rl:List Str} (h:CutOk c pre d ko ro kl rl):rl.length=kl.length:=by
  have:=AW8 (bareC c) kl noBn
  rw [h.pl] at this;exact this
theorem Bw9 {c:Cd} {d d':DkX} {v r:Str} {e:Int} (hs:(d'.pl,r,e)=stepX c d.pl v) (hk:¬ (e=0∧asksX v=false)):d'.pl=d.pl∧(e ≠ 0→r=[]):=by
  have h1:keptX c d.pl v=false:=by
    unfold keptX;rw [← hs];dsimp only
    cases ha:asksX v with
    | true=>simp
    | false =>
      rw [decide_eq_false (fun h=>hk ⟨h,ha⟩)];rfl
  have h2:=CZ4 h1;rw [← hs] at h2;refine ⟨h2,fun he=>?_⟩
  have h3:=CO1 (c:=c) (b:=d.pl) (s:=v) (by rw [← hs];exact he);rw [← hs] at h3;exact h3
end Go.Dk
namespace Go.Proofs.YtnmkdiagbkkmaabGreatDoor
open Go Go.Eng Go.Dk Go.RowKit Go.Pw1 Go.Hp

theorem Bf8 (d e:DkX) (hd:DkOk d) (he:DkOk e) (hpl:d.pl=e.pl) (W:World) (h1:BenA W d) (h2:BenA W e):Calls Tryz.prog 20 #[benV d,benV e] W (Pure (.bool true) W):=by
  rw [CU0 hd,CU0 he];exact BP3 d e hd hpl W h1 h2
end Go.Proofs.YtnmkdiagbkkmaabGreatDoor
namespace Go.Dk
open Go Go.Eng Go.Pw1 Go.Hp
def scriptX (l:List Str):Str:=(l.map (·++[10])).flatten
theorem AD4 (l:List Str) (s:Str):scriptX (l++[s])=scriptX l++(s++[10]):=by simp [scriptX]
theorem Bz6:∀ (s r cur:Str),(10:UInt8) ∉ s→linesX (s++10::r) cur=(cur++s)::linesX r []
  | [],r,cur,_=>by simp [linesX]
  | c::s,r,cur,h=>by
    have hc:c ≠ 10:=fun e=>h (by simp [e])
    rw [List.cons_append,linesX,if_neg hc,Bz6 s r _ (fun e=>h (by simp [e]))];simp
theorem AT4:∀ (l:List Str),(∀ s∈l,(10:UInt8) ∉ s)→linesX (scriptX l) []=l
  | [],_=>rfl
  | s::l,h=>by
    have e:scriptX (s::l)=s++10::scriptX l:=by simp [scriptX]
    rw [e,Bz6 s _ [] (h s (by simp)),AT4 l (fun t ht=>h t (by simp [ht]))];rfl
theorem AQ5 {n:Nat}:∀ (l:List Str),(∀ s∈l,s.length≤n)→(scriptX l).length≤l.length * (n + 1)
  | [],_=>by simp [scriptX]
  | s::l,h=>by
    have e:scriptX (s::l)=s++10::scriptX l:=by simp [scriptX]
    have ih:=AQ5 l (fun t ht=>h t (by simp [ht]));have h1:=h s (by simp);rw [e,List.length_append,List.length_cons,List.length_cons,Nat.add_mul];omega
theorem AZ7 (l:List Str):scriptX l=[]∨(scriptX l).getLast? = some 10:=by
  rcases List.eq_nil_or_concat l with rfl | ⟨l',s,rfl⟩
  · exact .inl rfl
  · refine .inr ?_
    rw [List.concat_eq_append,AD4,← List.append_assoc];simp
theorem BS1 (c:Cd):∀ (l:List Str) (b:Bn),Go.Dk.runL c b l=((playX c b l).1,scriptX (playX c b l).2)
  | [],b=>rfl
  | s::l,b=>by
    rw [Go.Dk.runL,playX,BS1 c l];simp [scriptX]
theorem BZ4 {c:Cd} {l:List Str} (hn:∀ s∈l,(10:UInt8) ∉ s) (hl:(scriptX l).length≤131072) (hc:cardIs c=true):runX c (scriptX l)=(scriptX (playX (bareC c) noBn l).2,0):=by
  unfold runX;rw [if_neg (by omega),if_neg (fun h=>(AZ7 l).elim h.1 h.2),if_pos (by exact hc),AT4 l hn,BS1]
theorem Bq2 {c:Cd} {l:List Str} (hl:(scriptX l).length≤131072) (hc:cardIs c=false):runX c (scriptX l)=([],1):=by
  unfold runX;rw [if_neg (by omega),if_neg (fun h=>(AZ7 l).elim h.1 h.2),if_neg (by show ¬ cardIs c=true;rw [hc];decide)]
theorem Dg3 {s:Str} {c:UInt8}:0≤Lib.indexByte s c ↔ c∈s:=by
  constructor
  · intro h
    obtain ⟨i,hi⟩:∃ i:Nat,Lib.indexByte s c=i:=⟨(Lib.indexByte s c).toNat,(Int.toNat_of_nonneg h).symm⟩;exact List.mem_of_getElem? (Lib.indexByte_some hi).1
  · intro h
    by_cases hn:0≤Lib.indexByte s c
    · exact hn
    · have h1:=Lib.indexByte_ge s c
      obtain ⟨k,hk⟩:=List.mem_iff_getElem?.1 h;exact absurd hk (Lib.indexByte_none (by omega) k)
end Go.Dk
namespace Go.Eng
open Go Go.RowKit
section
variable {P:Program} {r:Regs} {W:World} {chg news:Blks} {dst:Option Tmp} {gd:Option (Nat×Bool)} {ty:TypeId} {pos:String} {after:Array Edge}
theorem AP5 {x:Operand} {T yt t:TypeId} {p:Option Addr} (hx:rev r x=some (.pointer p)) (hT:P.underlying T=some (.pointer t)) :
    Val P r W chg news { dst,op:=.binOp .neq T x (.const (.pointer none)) yt,type:=ty,pos,after,guard:=gd } (.bool !p.isNone) :=
  ⟨fun a w ha _=>by
    have h:=AL0 (P:=P) (w:=w) hT p;simp [execOp,ha.eval hx,BigFrame.eval_const,eqGuard,binOp,h]⟩
end
def frB (e:TypeId) (x:Own) (l:List UInt8):Blks:=match x with
  | none=>[]
  | some (g,_,rr)=>[(g,.cells (byc l++rr).toArray e (0,l.length))]
section
variable {P:Program}
theorem Cu2 {w:World} {g n:Nat} (hn:¬ n=0):∀ k,k ≠ g→(w.freeze ⟨g,0,none⟩ n).heap[k]? = w.heap[k]?:=fun k hk=>by
  unfold World.freeze;rw [if_neg hn];simp [Array.getElem?_modify,Ne.symm hk]
theorem Bv8 {pt it ty e:TypeId} (hp:P.underlying pt=some (.pointer e)) (hc:P.cellsOf e=1) {g:Nat} {rr:List Value} {l:List UInt8} (h0:l ≠ []) (hn:l.length≤9223372036854775807) {fz:Nat×Nat} (hf:fz=(0,0)∨fz=(0,l.length)) {tl:Blks} {w W:World} (hm:Mem W [] ((g,.cells (byc l++rr).toArray e fz)::tl) w) :
    ∃ w',(Builtin.unsafeString_ #[pt,it] ty #[.pointer (some ⟨g,0,none⟩),.int .i64 (l.length:Int)]).run P w = .ok (.string ⟨l.toArray⟩) w'∧Mem W [] ((g,.cells (byc l++rr).toArray e (0,l.length))::tl) w':=by
  have hg:=(hm.newd g _ (.head _)).2;have h00:¬ l.length=0:=by simpa using h0
  refine ⟨_,Lib.run_unsafeString_row w pt it ty e hp hc g ((byc l++rr).toArray.size) (by unfold World.shape?;rw [hg]) l h0 (by rw [List.size_toArray,List.length_append,Be7];omega) hn ?_,?_⟩
  · intro j y hy
    have hj:=(List.getElem?_eq_some_iff.1 hy).1;rw [add_plain,Ae0 hg]
    have:(byc l++rr)[j]? = some (.int .u8 (y.toNat:Int)):=by
      rw [List.getElem?_append_left (by rw [Be7];exact hj)];unfold byc;simp [hy]
    simpa using this
  · refine Mem.upd_new hm .here ?_ ?_ ?_ ?_ (fun k _ hk=>Cu2 h00 k hk) ?_
    · unfold World.freeze;rw [if_neg h00]
    · unfold World.freeze;rw [if_neg h00]
    · unfold World.freeze;rw [if_neg h00]
    · unfold World.freeze;rw [if_neg h00];simp
    · unfold World.freeze
      rw [if_neg h00]
      rcases hf with rfl | rfl
      · simp [Array.getElem?_modify,hg]
      · simp [Array.getElem?_modify,hg,Ne.symm h00]
variable {pt it ty e:TypeId} (hp:P.underlying pt=some (.pointer e)) (hc:P.cellsOf e=1) {x:Own} {l:List UInt8} {tl:Blks} (hx:OwnOk 1 x l.length (byc l)) {w:World}
include hp hc hx
theorem BH0 {W:World} (hm:Mem W [] (ownB e x (byc l)++tl) w):∃ w',(Builtin.unsafeString_ #[pt,it] ty #[.pointer (ownQ x),.int .i64 (l.length:Int)]).run P w = .ok (.string ⟨l.toArray⟩) w'∧Mem W [] (frB e x l++tl) w':=by
  by_cases h0:l=[]
  · subst h0
    refine ⟨w,Lib.run_unsafeString_none w _ _ _ _,?_⟩
    match x,hm with
    | none,hm=>exact hm
    | some (g,c,rr),hm=>exact hm
  · obtain ⟨g,c,rr,rfl,h1,h2,h3⟩:=hx.has (List.length_pos_iff.2 h0)
    exact Bv8 hp hc h0 (by unfold maxLen at h2;omega) (.inl rfl) hm
theorem Bv9 {W:World} (hm:Mem W [] (frB e x l++tl) w):∃ w',(Builtin.unsafeString_ #[pt,it] ty #[.pointer (ownQ x),.int .i64 (l.length:Int)]).run P w = .ok (.string ⟨l.toArray⟩) w'∧Mem W [] tl w':=by
  by_cases h0:l=[]
  · subst h0
    exact ⟨w,Lib.run_unsafeString_none w _ _ _ _,hm.fewer (List.sublist_append_right _ _)⟩
  · obtain ⟨g,c,rr,rfl,h1,h2,h3⟩:=hx.has (List.length_pos_iff.2 h0)
    obtain ⟨w',h4,h5⟩:=Bv8 hp hc h0 (by unfold maxLen at h2;omega) (.inr rfl) hm;exact ⟨w',h4,h5.fewer (List.sublist_cons_self _ _)⟩
end
end Go.Eng
namespace Go.Dk
open Go Go.Eng Go.RowKit Go.Pw1 Go.Hp
theorem BS3 {c:Cd} {b:Bn} (h:Right c b):BnSm b:=⟨h.nv,fun v hv=>(h.v v hv).n,h.nb,h.nc⟩
theorem Bk1 {c:Cd} (hc:cardIs c=true):∀ (l:List Str) {b:Bn},Right c b→∀ u∈(playX (bareC c) b l).2,u.length≤4000
  | [],_,_,u,hu=>by cases hu
  | s::l,b,h,u,hu=>by
    unfold playX at hu
    rcases List.mem_cons.1 hu with rfl | hu
    · exact BV3 (BR5 (BS3 h) (bareC c) s) (Bp9 (BS3 h) (bareC c) s)
    · exact Bk1 hc l (BZ9 hc h s) u hu
end Go.Dk
namespace Go.Proofs.YtnmkdiagbkkmaabGreatDoor
open Go Go.Eng Go.Dk Go.RowKit Go.Pw1 Go.Hp

theorem Be8 (b:Nat) (p:Value) (x:Eng.Own) (l:Str) (rest:Blks) (W0 w:World) (hm0:Mem W0 [] (buB b p x l (rest++[])) w) (hx:OwnOk 1 x l.length (byc l)) (hc:ownQ x=none∨ownC x ≠ 0) :
    Calls Tryz.prog 24 #[.pointer (some ⟨b,0,none⟩)] w (Grow W0 [] (fun _:Unit=>.string (bs l)) (fun _=>(b,buO p x l.length)::(frB 5 x l++(rest++[]))) (fun _=>True)):=by
  refine Af1 hm0 Tryz.func24 rfl rfl ?_;refine st ?_;refine Ac3 10 Ai6 (.cons .here rfl (Pick.refl _)) ?_;refine va 0 rfl (Aa2 rfl) rfl rfl rfl (.cons .here rfl (Pick.refl _)) rfl ?_;refine va 1 rfl (Aa2 rfl) rfl rfl rfl (.cons .here rfl (Pick.refl _)) rfl ?_;refine va 2 rfl (Val.fieldAddr rfl AE5) rfl rfl rfl (.cons .here rfl (Pick.refl _)) rfl ?_;refine va 3 rfl (Ab5 rfl (.head _) Bw3 rfl) rfl rfl rfl (.cons .here rfl (Pick.refl _)) rfl ?_;refine va 4 rfl (AF3 (q:=ownQ x) (m:=l.length) (c:=ownC x) (by show some (ownV x l.length)=_;rw [Ad2 hx]) hc) rfl rfl rfl (.cons .here rfl (Pick.refl _)) rfl ?_;refine va 5 rfl (Aa2 rfl) rfl rfl rfl (.cons .here rfl (Pick.refl _)) rfl ?_;refine va 6 rfl (Aa2 rfl) rfl rfl rfl (.cons .here rfl (Pick.refl _)) rfl ?_;refine va 7 rfl (Val.fieldAddr rfl AE5) rfl rfl rfl (.cons .here rfl (Pick.refl _)) rfl ?_;refine va 8 rfl (Ab5 rfl (.head _) Bw3 rfl) rfl rfl rfl (.cons .here rfl (Pick.refl _)) rfl ?_;refine va 9 rfl (Ah0 rfl BZ2 hx) rfl rfl rfl (.cons .here rfl (Pick.refl _)) rfl ?_;refine zt ?_;refine zB 10 ?_;refine AA8 (q:=ownQ x) (m:=l.length) rfl rfl rfl rfl (fun w hm=>BH0 (e:=5) (by kernel_rfl) (by kernel_rfl) hx (hm.pick (news':=ownB 5 x (byc l)++((b,buO p x l.length)::(rest++[]))) (Pick.cnt fun x=>by simp only [nC];omega))) (Ab7 ?_)
  refine zp 11 ?_;refine zd ?_;refine su ?_;exact Ay0 () trivial (.r1 rfl (.tmp rfl)) rfl (Pick.cnt fun x=>by simp only [nC];omega)
theorem Be9 (b:Nat) (p:Value) (x:Eng.Own) (l:Str) (rest:Blks) (W0 w:World) (hm0:Mem W0 [] ((b,buO p x l.length)::(frB 5 x l++(rest++[]))) w) (hx:OwnOk 1 x l.length (byc l)) (hc:ownQ x=none∨ownC x ≠ 0) :
    Calls Tryz.prog 24 #[.pointer (some ⟨b,0,none⟩)] w (Grow W0 [] (fun _:Unit=>.string (bs l)) (fun _=>(b,buO p x l.length)::(rest++[])) (fun _=>True)):=by
  refine Af1 hm0 Tryz.func24 rfl rfl ?_;refine st ?_;refine Ac3 10 Ai6 (.cons .here rfl (Pick.refl _)) ?_;refine va 0 rfl (Aa2 rfl) rfl rfl rfl (.cons .here rfl (Pick.refl _)) rfl ?_;refine va 1 rfl (Aa2 rfl) rfl rfl rfl (.cons .here rfl (Pick.refl _)) rfl ?_;refine va 2 rfl (Val.fieldAddr rfl AE5) rfl rfl rfl (.cons .here rfl (Pick.refl _)) rfl ?_;refine va 3 rfl (Ab5 rfl (.head _) Bw3 rfl) rfl rfl rfl (.cons .here rfl (Pick.refl _)) rfl ?_;refine va 4 rfl (AF3 (q:=ownQ x) (m:=l.length) (c:=ownC x) (by show some (ownV x l.length)=_;rw [Ad2 hx]) hc) rfl rfl rfl (.cons .here rfl (Pick.refl _)) rfl ?_;refine va 5 rfl (Aa2 rfl) rfl rfl rfl (.cons .here rfl (Pick.refl _)) rfl ?_;refine va 6 rfl (Aa2 rfl) rfl rfl rfl (.cons .here rfl (Pick.refl _)) rfl ?_;refine va 7 rfl (Val.fieldAddr rfl AE5) rfl rfl rfl (.cons .here rfl (Pick.refl _)) rfl ?_;refine va 8 rfl (Ab5 rfl (.head _) Bw3 rfl) rfl rfl rfl (.cons .here rfl (Pick.refl _)) rfl ?_;refine va 9 rfl (Ah0 rfl BZ2 hx) rfl rfl rfl (.cons .here rfl (Pick.refl _)) rfl ?_;refine zt ?_;refine zB 10 ?_;refine AA8 (q:=ownQ x) (m:=l.length) rfl rfl rfl rfl (fun w hm=>Bv9 (e:=5) (by kernel_rfl) (by kernel_rfl) hx (hm.pick (news':=frB 5 x l++((b,buO p x l.length)::(rest++[]))) (Pick.cnt fun x=>by simp only [nC];omega))) (Ab7 ?_)
  refine zp 11 ?_;refine zd ?_;refine su ?_;exact Ay0 () trivial (.r1 rfl (.tmp rfl)) rfl (.cons .here rfl (Pick.refl _))
theorem AG9 (s:Str) (W:World):Calls Tryz.prog 21 #[.string (bs s),.string (bs [10])] W (Pure (.bool (decide ((10:UInt8)∈s))) W):=by
  refine Af8 (Tryz.strings_Contains_one (bs s) 10 W) ?_
  rintro e w' ⟨rfl,rfl⟩
  refine ⟨?_,Mem.refl _⟩
  have e:decide (0≤Lib.indexByte s 10)=decide ((10:UInt8)∈s):=by rw [Bool.eq_iff_iff,decide_eq_true_eq,decide_eq_true_eq];exact Dg3
  rw [← e];rfl
section
variable (c:Cd) (q:Option Addr) (b o cap:Nat) (l:List Str) (W:World) (hS:Sl W q b o 9 (c.p.things.map Th.cells)) (hq:q=none→cap=0) (hl:c.p.things.length≤1000) (hL:Lw Tryz.prog W)
include hS hq hl hL
theorem Bb8 (t:Str) (ht:t=scriptX l) (hn:∀ s∈l,(10:UInt8) ∉ s) (h1:l.length≤60) (h2:∀ s∈l,s.length≤400) (hc:cardIs c=true):Calls Tryz.prog 23 #[c.v q cap,.string (bs t)] W (Pure (.tuple #[.string (bs (scriptX (playX (bareC c) noBn l).2)),.int .i64 0]) W):=by
  have hlen:=AQ5 l h2;have hb:l.length * (400 + 1)≤60 * 401:=Nat.mul_le_mul h1 (Nat.le_refl _);have h:=Bf9 c q b o cap (scriptX l) W hS hq hl hL (.inl (by omega));rw [BZ4 hn (by omega) hc] at h;rw [ht];exact h
theorem Bb9 (t:Str) (ht:t=scriptX l) (h1:l.length≤60) (h2:∀ s∈l,s.length≤400) (hc:cardIs c=false):Calls Tryz.prog 23 #[c.v q cap,.string (bs t)] W (Pure (.tuple #[.string (bs []),.int .i64 1]) W):=by
  have hlen:=AQ5 l h2;have hb:l.length * (400 + 1)≤60 * 401:=Nat.mul_le_mul h1 (Nat.le_refl _);have h:=Bf9 c q b o cap (scriptX l) W hS hq hl hL (.inl (by omega));rw [Bq2 (by omega) hc] at h;rw [ht];exact h
variable (ql:Option Addr) (bl ol cl:Nat) (hls:Sl W ql bl ol 1 (l.map strC)) (hln:l.length≤10000) (hlv:∀ s∈l,s.length≤100000)
include hls hln hlv
theorem Bl0 (hc:cardIs c=true) :
    Calls Tryz.prog 18 #[c.v q cap,.slice ql l.length cl] W (News (fun z:{z:RunZ // RunOk c l z.2.1 z.2.2.1 z.2.2.2}=>.tuple #[pV z.1.1,ownV z.1.2.2.1 z.1.2.2.2.length]) (fun z=>((z.1.1,dkO z.1.2.1 c)::(ownB 9 z.1.2.2.1 (z.1.2.2.2.map strC).flatten++dkB z.1.2.1))++[]) W):=by
  refine Af8 (CZ0 c q b o cap hq l ql bl ol cl W hL hS hl hls hln hlv hc) ?_
  rintro e w' ⟨z,hz,rfl,hm⟩
  exact ⟨⟨z,hz⟩,rfl,hm.pick (Pick.cnt fun x=>by simp only [nC];omega)⟩
end
theorem CZ1 (c:Cd) (q:Option Addr) (b o cap:Nat) (hq:q=none→cap=0) (l:List Str) (ql:Option Addr) (cl:Nat) (W:World) (hS:Sl W q b o 9 (c.p.things.map Th.cells)) (hl:c.p.things.length≤1000) (hc:cardIs c=false):Calls Tryz.prog 18 #[c.v q cap,.slice ql l.length cl] W (Pure (.tuple #[.pointer none,.slice none 0 0]) W):=by
  have hund:Tryz.prog.underlying 33=some (.pointer 86):=by kernel_rfl
  refine Aa0 Tryz.func18 rfl rfl ?_;refine st ?_;refine zn (New.box rfl) (fun b2=>?_)
  refine zc (zF rfl BV2) (fun w hm=>CU6 c q b o cap w (hS.mono (by decide) hm (by simp)) hq (by omega) hc) ?_;refine lv (Ak5 rfl hund) ?_;refine RunC.cond rfl ?_ (fun h=>absurd h (by simp))
  intro c0;clear c0;refine su ?_;exact Aa4 (.r2 rfl (.tmp rfl) (.tmp rfl)) (by first | rfl | simp)
end Go.Proofs.YtnmkdiagbkkmaabGreatDoor
namespace Go.Proofs.YtnmkdiagbkkmaabGreatDoor
open Go Go.Eng
theorem BV1:Enters Tryz.prog 11:=Aa1 Tryz.func11 (by kernel_rfl) rfl
theorem Cy1:Enters Tryz.prog 18:=Aa1 Tryz.func18 (by kernel_rfl) rfl
theorem CT4:Enters Tryz.prog 20:=Aa1 Tryz.func20 (by kernel_rfl) rfl
theorem CT3:Enters Tryz.prog 21:=Aa1 Tryz.func21 (by kernel_rfl) rfl
theorem CO3:Enters Tryz.prog 7:=Aa1 Tryz.func7 (by kernel_rfl) rfl
theorem CZ9:Enters Tryz.prog 8:=Aa1 Tryz.func8 (by kernel_rfl) rfl
theorem Ce2:Enters Tryz.prog 9:=Aa1 Tryz.func9 (by kernel_rfl) rfl
end Go.Proofs.YtnmkdiagbkkmaabGreatDoor
namespace Go.Proofs.YtnmkdiagbkkmaabGreatDoor
open Go Go.Eng Go.Dk Go.RowKit Go.Pw1 Go.Hp

def wMoved0:Str:=wMoved++[32,48]
theorem Cd3 (c:Cd) (q:Option Addr) (b o cap:Nat) (hq:q=none→cap=0) (l:List Str) (ql:Option Addr) (bl ol cl:Nat) (W:World) (hL:Lw Tryz.prog W) (hS:Sl W q b o 9 (c.p.things.map Th.cells)) (hls:Sl W ql bl ol 1 (l.map strC)) (h1:farL c l=true):Calls Tryz.prog 5 #[c.v q cap,.slice ql l.length cl] W (Pure (.bool true) W):=by
  refine Aa0 Tryz.func5 rfl rfl ?_;refine st ?_;refine zn (New.box rfl) (fun b2=>?_)
  refine zc (zF rfl CO3) (fun w hm=>AJ7 c q cap l ql bl ol cl w (hls.mono (by decide) hm (by simp))) ?_;refine Ae3 (dj:=22) true rfl h1 ?_;refine su ?_;refine RunC.cond rfl ?_ (fun h=>absurd h (by simp))
  intro c0;clear c0;refine st ?_;refine zc (zF rfl Ce2) (fun w hm=>Ap0 w (hL.mono hm)) ?_;exact Aa4 (.r1 rfl (.tmp rfl)) (by first | rfl | simp)
theorem BA2 (c:Cd) (q:Option Addr) (b o cap:Nat) (hq:q=none→cap=0) (l:List Str) (ql:Option Addr) (bl ol cl:Nat) (W:World) (hL:Lw Tryz.prog W) (hS:Sl W q b o 9 (c.p.things.map Th.cells)) (hls:Sl W ql bl ol 1 (l.map strC)) (h1:farL c l=false) (h2:heavyC c=true):Calls Tryz.prog 5 #[c.v q cap,.slice ql l.length cl] W (Pure (.bool true) W):=by
  have hl3:=(BL3 h1).1;refine Aa0 Tryz.func5 rfl rfl ?_;refine st ?_;refine zn (New.box rfl) (fun b2=>?_)
  refine zc (zF rfl CO3) (fun w hm=>AJ7 c q cap l ql bl ol cl w (hls.mono (by decide) hm (by simp))) ?_;refine Ae3 (dj:=22) false rfl h1 ?_;refine su ?_;refine zc (zF rfl CZ9) (fun w hm=>AH3 c q b o cap w (hS.mono (by decide) hm (by simp)) (by omega)) ?_;refine RunC.cond rfl ?_ (fun h=>absurd h (by simp [h2]))
  intro c0;clear c0;refine st ?_;refine zc (zF rfl Ce2) (fun w hm=>Ap0 w (hL.mono hm)) ?_;exact Aa4 (.r1 rfl (.tmp rfl)) (by first | rfl | simp)
set_option maxHeartbeats 4000000 in
theorem Ct1 (c:Cd) (q:Option Addr) (b o cap:Nat) (hq:q=none→cap=0) (l:List Str) (ql:Option Addr) (bl ol cl:Nat) (W:World) (hL:Lw Tryz.prog W) (hS:Sl W q b o 9 (c.p.things.map Th.cells)) (hls:Sl W ql bl ol 1 (l.map strC)) (h1:farL c l=false) (h2:heavyC c=false) (hc:cardIs c=false):Calls Tryz.prog 5 #[c.v q cap,.slice ql l.length cl] W (Pure (.bool true) W):=by
  have hcR:cardR c=false:=(AX7 c).trans hc;obtain ⟨hl3,hl4,hl5⟩:=BL3 h1;have hund:Tryz.prog.underlying 33=some (.pointer 86):=by kernel_rfl
  refine Aa0 Tryz.func5 rfl rfl ?_;refine st ?_;refine zn (New.box rfl) (fun b2=>?_)
  refine zc (zF rfl CO3) (fun w hm=>AJ7 c q cap l ql bl ol cl w (hls.mono (by decide) hm (by simp))) ?_;refine Ae3 (dj:=22) false rfl h1 ?_;refine su ?_;refine zc (zF rfl CZ9) (fun w hm=>AH3 c q b o cap w (hS.mono (by decide) hm (by simp)) (by omega)) ?_;refine RunC.cond rfl (fun h=>absurd h (by simp [h2])) ?_;intro c0;clear c0;refine st ?_;refine zn (New.alloc BG5) (fun b5=>?_)
  refine Ag3 (X:=Value×Eng.Own×Str) (n0:=[(b2,_)]) (l.length) (fun k y q=>(29,.int .i64 (k:Int))::q) (fun _ _=>_) (fun k y=>[(b5,buO y.1 y.2.1 y.2.2.length)]) (fun k y=>ownB 5 y.2.1 (byc y.2.2)++[]) (fun k y=>BuP b5 y.1∧OwnOk 1 y.2.1 y.2.2.length (byc y.2.2)∧(y.2.1=none∨y.2.2 ≠ [])∧y.2.2=scriptX (l.take k)∧(∀ s∈l.take k,(10:UInt8) ∉ s)∧y.2.2.length≤401 * k) (.pointer none,none,[]) ⟨.inl rfl,OwnOk.start,.inl rfl,rfl,fun s h=>(by cases h),Nat.zero_le _⟩ rfl (zE 29 rfl rfl (zS 1 rfl (zS 2 rfl (zS 5 rfl (zS 27 rfl (zS 28 rfl (Sub.nil _))))))) (.cons .here rfl (.cons .here rfl (Pick.same rfl))) ?_;intro k y kN kI;obtain ⟨yp,yx,yl⟩:=y;obtain ⟨kp,kx,ke,ks,kn,kz⟩:=kI;dsimp only at kp kx ke ks kz ⊢;refine st ?_;refine cn rfl ?_ ?_
  ·intro c1'
   have hk:k < l.length:=by omega
   obtain ⟨v,hv⟩:∃ v,l[k]=v:=⟨_,rfl⟩;have hvm:v∈l:=hv ▸ List.getElem_mem hk;have hvl:=hl5 v hvm;refine st ?_;refine lv (Aa7 rfl rfl An6 (by omega) (by omega) (hls.ptrM hk)) ?_;refine lv (Aa9 rfl (fun w hm=>Sl.loadM1 hls (by decide) hm (by simp) AC9 hk (v:=.string (bs v)) (by simp [strC,hv]))) ?_;refine zc (zF rfl CT3) (fun w hm=>AG9 v w) ?_;refine cn rfl ?_ ?_
   ·intro c2'
    refine st ?_;refine zc (zF rfl Ce2) (fun w hm=>Ap0 w (hL.mono hm)) ?_;exact Aa4 (.r1 rfl (.tmp rfl)) (by first | rfl | simp)
   intro c2';have hnv:(10:UInt8) ∉ v:=by simpa using c2'
   refine st ?_;refine lv (Ar2 rfl rfl (by simp;omega)) ?_;refine Aj9 (zF rfl BU9) rfl rfl rfl (fun w hm=>(As2 (nw':=fun y:Eng.Own=>(b5,buO (buS b5) y (yl++(v++[10])).length)::(b2,.cells (cellsL (c.v q cap)).toArray 28 (0,0))::(ownB 5 y (byc (yl++(v++[10])))++[])) (Az4 b5 yp yx yl (v++[10]) ((b2,.cells (cellsL (c.v q cap)).toArray 28 (0,0))::[]) W w (hm.pick (Pick.cnt fun x=>by simp only [nC,List.append_nil];omega)) kp kx (by have:=hl5 v hvm;simp only [List.length_append,List.length_singleton];omega)) (fun _=>(Pick.cnt fun x=>by simp only [nC,List.append_nil];omega)))) (fun z38 hz38=>?_)
   skip
   refine st ?_;refine lv (Val.add rfl rfl (IntWalk.i64_in _ ⟨by omega,by omega⟩)) ?_;exact Ad1 (buS b5,z38,yl++(v++[10])) (by omega) ⟨.inr rfl,hz38,.inr (by simp),by (rw [List.take_succ_eq_append_getElem hk,hv,AD4,ks]),fun s hs=>(by rw [List.take_succ_eq_append_getElem hk,hv] at hs;rcases List.mem_append.1 hs with hs | hs;exact kn s hs;obtain rfl:=List.mem_singleton.1 hs;exact hnv),by (have:=hl5 v hvm;simp only [List.length_append,List.length_singleton];omega)⟩ rfl (zE 29 rfl rfl (zS 1 rfl (zS 2 rfl (zS 5 rfl (zS 27 rfl (zS 28 rfl (Sub.nil _))))))) (Pick.cnt fun x=>by simp only [nC,List.append_nil];omega)
  intro c1';have hk:k=l.length:=by omega
  rw [hk,List.take_length] at ks kn;have kc:=Co9 kx ke;refine RunC.exit ?_;refine su ?_;refine Ab0 ?_;refine st ?_;refine Ac3 7 Ai6 (.cons .here rfl (.cons .here rfl .nil)) ?_;refine zw 0 ?_;refine zA 1 ?_;refine AC4 rfl (zF rfl BC9) rfl rfl rfl (fun w hm=>(As2 (nw':=fun _:Unit=>(b5,buO yp yx yl.length)::(b2,.cells (cellsL (c.v q cap)).toArray 28 (0,0))::(frB 5 yx yl++[])) (Be8 b5 yp yx yl ((b2,.cells (cellsL (c.v q cap)).toArray 28 (0,0))::[]) W w (hm.pick (Pick.cnt fun x=>by simp only [nC,List.append_nil];omega)) kx kc) (fun _=>(Pick.cnt fun x=>by simp only [nC,List.append_nil];omega)))) (fun z42 hz42=>(Aa3 (.cons .here rfl (.cons .here rfl .nil)) (.cons .here rfl (.cons .here rfl .nil)) rfl ?_))
  skip
  refine zA 2 ?_;refine Ab4 rfl (zF rfl BD0) rfl rfl rfl (fun w hm=>Bb9 c q b o cap l w (hS.mono (by decide) hm (by simp)) hq (by omega) (hL.mono hm) yl ks hl4 hl5 hc) (Aa3 (.cons .here rfl (.cons .here rfl .nil)) (.cons .here rfl (.cons .here rfl .nil)) rfl ?_)
  refine zw 3 ?_;refine zw 4 ?_;refine zw 5 ?_;refine zw 6 ?_;refine zt ?_;refine zp 7 ?_;refine zd ?_;refine st ?_;refine Ac3 7 Ai6 (.cons .here rfl (.cons .here rfl .nil)) ?_;refine zw 0 ?_;refine zA 1 ?_;refine AC4 rfl (zF rfl BC9) rfl rfl rfl (fun w hm=>(Be9 b5 yp yx yl ((b2,.cells (cellsL (c.v q cap)).toArray 28 (0,0))::[]) W w (hm.pick (Pick.cnt fun x=>by simp only [nC,List.append_nil];omega)) kx kc)) (fun z48 hz48=>(Aa3 (.cons .here rfl (.cons .here rfl .nil)) (.cons .here rfl (.cons .here rfl .nil)) rfl ?_))
  skip
  refine zA 2 ?_;refine Ab4 rfl (zF rfl BD0) rfl rfl rfl (fun w hm=>Bb9 c q b o cap l w (hS.mono (by decide) hm (by simp)) hq (by omega) (hL.mono hm) yl ks hl4 hl5 hc) (Aa3 (.cons .here rfl (.cons .here rfl .nil)) (.cons .here rfl (.cons .here rfl .nil)) rfl ?_)
  refine zw 3 ?_;refine zw 4 ?_;refine zw 5 ?_;refine zw 6 ?_;refine zt ?_;refine zp 7 ?_;refine zd ?_;refine su ?_;refine zc (zF rfl Cy1) (fun w hm=>CZ1 c q b o cap hq l ql cl w (hS.mono (by decide) hm (by simp)) (by omega) hc) ?_;refine lv (Ap1 rfl rfl) ?_;refine Ae3 (dj:=61) false rfl (by simp) ?_;refine st ?_;refine Ae3 (dj:=66) false rfl (by simp) ?_;refine st ?_;refine lv (AP5 rfl hund) ?_;refine lv (AH8 rfl rfl BO3) ?_;refine RunC.cond rfl (fun h=>absurd h (by simp)) ?_;intro c3;clear c3;refine st ?_;refine RunC.cond rfl ?_ (fun h=>absurd h (by simp))
  intro c4;clear c4;refine st ?_;refine lv (AK4 rfl rfl) ?_;refine Ae3 (dj:=77) true rfl (by simp) ?_;refine st ?_;refine Ae3 (dj:=81) true rfl (by simp) ?_;refine su ?_;refine zc (zF rfl CT5) (fun w hm=>AT2 c q b o cap w (hS.mono (by decide) hm (by simp)) (by omega)) ?_;refine Ae3 (dj:=86) true rfl (by simp [hcR]) ?_;refine zc (zF rfl Ce2) (fun w hm=>Ap0 w (hL.mono hm)) ?_;exact Aa4 (.r1 rfl (.tmp rfl)) (by first | rfl | simp)
set_option maxHeartbeats 4000000 in
theorem Ct0 (c:Cd) (q:Option Addr) (b o cap:Nat) (hq:q=none→cap=0) (l:List Str) (ql:Option Addr) (bl ol cl:Nat) (W:World) (hL:Lw Tryz.prog W) (hS:Sl W q b o 9 (c.p.things.map Th.cells)) (hls:Sl W ql bl ol 1 (l.map strC)) (h1:farL c l=false) (h2:heavyC c=false) (hc:cardIs c=true):Calls Tryz.prog 5 #[c.v q cap,.slice ql l.length cl] W (Pure (.bool true) W):=by
  obtain ⟨hl3,hl4,hl5⟩:=BL3 h1;have hund:Tryz.prog.underlying 33=some (.pointer 86):=by kernel_rfl
  obtain ⟨pb,rep,hpl⟩:∃ pb rep,playX (bareC c) noBn l=(pb,rep):=⟨_,_,rfl⟩;have hsh:=Bk1 hc l (Ca0 c);have hrl:=AW8 (bareC c) l noBn;rw [hpl] at hsh hrl;dsimp only at hsh hrl;refine Aa0 Tryz.func5 rfl rfl ?_;refine st ?_;refine zn (New.box rfl) (fun b2=>?_)
  refine zc (zF rfl CO3) (fun w hm=>AJ7 c q cap l ql bl ol cl w (hls.mono (by decide) hm (by simp))) ?_;refine Ae3 (dj:=22) false rfl h1 ?_;refine su ?_;refine zc (zF rfl CZ9) (fun w hm=>AH3 c q b o cap w (hS.mono (by decide) hm (by simp)) (by omega)) ?_;refine RunC.cond rfl (fun h=>absurd h (by simp [h2])) ?_;intro c0;clear c0;refine st ?_;refine zn (New.alloc BG5) (fun b5=>?_)
  refine Ag3 (X:=Value×Eng.Own×Str) (n0:=[(b2,_)]) (l.length) (fun k y q=>(29,.int .i64 (k:Int))::q) (fun _ _=>_) (fun k y=>[(b5,buO y.1 y.2.1 y.2.2.length)]) (fun k y=>ownB 5 y.2.1 (byc y.2.2)++[]) (fun k y=>BuP b5 y.1∧OwnOk 1 y.2.1 y.2.2.length (byc y.2.2)∧(y.2.1=none∨y.2.2 ≠ [])∧y.2.2=scriptX (l.take k)∧(∀ s∈l.take k,(10:UInt8) ∉ s)∧y.2.2.length≤401 * k) (.pointer none,none,[]) ⟨.inl rfl,OwnOk.start,.inl rfl,rfl,fun s h=>(by cases h),Nat.zero_le _⟩ rfl (zE 29 rfl rfl (zS 1 rfl (zS 2 rfl (zS 5 rfl (zS 27 rfl (zS 28 rfl (Sub.nil _))))))) (.cons .here rfl (.cons .here rfl (Pick.same rfl))) ?_;intro k y kN kI;obtain ⟨yp,yx,yl⟩:=y;obtain ⟨kp,kx,ke,ks,kn,kz⟩:=kI;dsimp only at kp kx ke ks kz ⊢;refine st ?_;refine cn rfl ?_ ?_
  ·intro c1'
   have hk:k < l.length:=by omega
   obtain ⟨v,hv⟩:∃ v,l[k]=v:=⟨_,rfl⟩;have hvm:v∈l:=hv ▸ List.getElem_mem hk;have hvl:=hl5 v hvm;refine st ?_;refine lv (Aa7 rfl rfl An6 (by omega) (by omega) (hls.ptrM hk)) ?_;refine lv (Aa9 rfl (fun w hm=>Sl.loadM1 hls (by decide) hm (by simp) AC9 hk (v:=.string (bs v)) (by simp [strC,hv]))) ?_;refine zc (zF rfl CT3) (fun w hm=>AG9 v w) ?_;refine cn rfl ?_ ?_
   ·intro c2'
    refine st ?_;refine zc (zF rfl Ce2) (fun w hm=>Ap0 w (hL.mono hm)) ?_;exact Aa4 (.r1 rfl (.tmp rfl)) (by first | rfl | simp)
   intro c2';have hnv:(10:UInt8) ∉ v:=by simpa using c2'
   refine st ?_;refine lv (Ar2 rfl rfl (by simp;omega)) ?_;refine Aj9 (zF rfl BU9) rfl rfl rfl (fun w hm=>(As2 (nw':=fun y:Eng.Own=>(b5,buO (buS b5) y (yl++(v++[10])).length)::(b2,.cells (cellsL (c.v q cap)).toArray 28 (0,0))::(ownB 5 y (byc (yl++(v++[10])))++[])) (Az4 b5 yp yx yl (v++[10]) ((b2,.cells (cellsL (c.v q cap)).toArray 28 (0,0))::[]) W w (hm.pick (Pick.cnt fun x=>by simp only [nC,List.append_nil,dkM];omega)) kp kx (by have:=hl5 v hvm;simp only [List.length_append,List.length_singleton];omega)) (fun _=>(Pick.cnt fun x=>by simp only [nC,List.append_nil,dkM];omega)))) (fun z38 hz38=>?_)
   skip
   refine st ?_;refine lv (Val.add rfl rfl (IntWalk.i64_in _ ⟨by omega,by omega⟩)) ?_;exact Ad1 (buS b5,z38,yl++(v++[10])) (by omega) ⟨.inr rfl,hz38,.inr (by simp),by (rw [List.take_succ_eq_append_getElem hk,hv,AD4,ks]),fun s hs=>(by rw [List.take_succ_eq_append_getElem hk,hv] at hs;rcases List.mem_append.1 hs with hs | hs;exact kn s hs;obtain rfl:=List.mem_singleton.1 hs;exact hnv),by (have:=hl5 v hvm;simp only [List.length_append,List.length_singleton];omega)⟩ rfl (zE 29 rfl rfl (zS 1 rfl (zS 2 rfl (zS 5 rfl (zS 27 rfl (zS 28 rfl (Sub.nil _))))))) (Pick.cnt fun x=>by simp only [nC,List.append_nil,dkM];omega)
  intro c1';have hk:k=l.length:=by omega
  rw [hk,List.take_length] at ks kn;have kc:=Co9 kx ke;refine RunC.exit ?_;refine su ?_;refine Ab0 ?_;refine st ?_;refine Ac3 7 Ai6 (.cons .here rfl (.cons .here rfl .nil)) ?_;refine zw 0 ?_;refine zA 1 ?_;refine AC4 rfl (zF rfl BC9) rfl rfl rfl (fun w hm=>(As2 (nw':=fun _:Unit=>(b5,buO yp yx yl.length)::(b2,.cells (cellsL (c.v q cap)).toArray 28 (0,0))::(frB 5 yx yl++[])) (Be8 b5 yp yx yl ((b2,.cells (cellsL (c.v q cap)).toArray 28 (0,0))::[]) W w (hm.pick (Pick.cnt fun x=>by simp only [nC,List.append_nil,dkM];omega)) kx kc) (fun _=>(Pick.cnt fun x=>by simp only [nC,List.append_nil,dkM];omega)))) (fun z42 hz42=>(Aa3 (.cons .here rfl (.cons .here rfl .nil)) (.cons .here rfl (.cons .here rfl .nil)) rfl ?_))
  skip
  refine zA 2 ?_;refine Ab4 rfl (zF rfl BD0) rfl rfl rfl (fun w hm=>Bb8 c q b o cap l w (hS.mono (by decide) hm (by simp)) hq (by omega) (hL.mono hm) yl ks kn hl4 hl5 hc) (Aa3 (.cons .here rfl (.cons .here rfl .nil)) (.cons .here rfl (.cons .here rfl .nil)) rfl ?_)
  refine zw 3 ?_;refine zw 4 ?_;refine zw 5 ?_;refine zw 6 ?_;refine zt ?_;refine zp 7 ?_;refine zd ?_;refine st ?_;refine Ac3 7 Ai6 (.cons .here rfl (.cons .here rfl .nil)) ?_;refine zw 0 ?_;refine zA 1 ?_;refine AC4 rfl (zF rfl BC9) rfl rfl rfl (fun w hm=>(Be9 b5 yp yx yl ((b2,.cells (cellsL (c.v q cap)).toArray 28 (0,0))::[]) W w (hm.pick (Pick.cnt fun x=>by simp only [nC,List.append_nil,dkM];omega)) kx kc)) (fun z48 hz48=>(Aa3 (.cons .here rfl (.cons .here rfl .nil)) (.cons .here rfl (.cons .here rfl .nil)) rfl ?_))
  skip
  refine zA 2 ?_;refine Ab4 rfl (zF rfl BD0) rfl rfl rfl (fun w hm=>Bb8 c q b o cap l w (hS.mono (by decide) hm (by simp)) hq (by omega) (hL.mono hm) yl ks kn hl4 hl5 hc) (Aa3 (.cons .here rfl (.cons .here rfl .nil)) (.cons .here rfl (.cons .here rfl .nil)) rfl ?_)
  refine zw 3 ?_;refine zw 4 ?_;refine zw 5 ?_;refine zw 6 ?_;refine zt ?_;refine zp 7 ?_;refine zd ?_;refine su ?_;refine Ai0 (zF rfl Cy1) rfl rfl rfl (fun w hm=>Bl0 c q b o cap l w (hS.mono (by decide) hm (by simp)) hq (by omega) (hL.mono hm) ql bl ol cl (hls.mono (by decide) hm (by simp)) (by omega) (fun s hs=>by have:=hl5 s hs;omega) hc) (fun z55=>?_)
  obtain ⟨⟨xb,xd,xo,xl⟩,hxk⟩:=z55;dsimp only at hxk ⊢;have hpp:=hxk.pl;rw [hpl] at hpp
  injection hpp with hx1 hx2
  subst hx2;refine st ?_;refine BF9 (Ac1 _) (news':=(xb,dkO xd c)::(b2,.cells (cellsL (c.v q cap)).toArray 28 (0,0))::(ownB 9 xo (rep.map strC).flatten++(dkB xd++[]))) (Pick.cnt fun x=>by simp only [nC,List.append_nil,dkM];omega) ?_;refine st ?_;refine lv (Ap1 rfl rfl) ?_;refine Ae3 (dj:=61) false rfl (by simp) ?_;refine st ?_;refine Ae3 (dj:=66) false rfl (by simp) ?_;refine st ?_;refine lv (AP5 rfl hund) ?_;refine lv (AH8 rfl rfl BO3) ?_;refine RunC.cond rfl (fun h=>absurd h (by simp)) ?_;intro c3;clear c3;refine st ?_;refine RunC.cond rfl (fun h=>absurd h (by simp)) ?_;intro c4;clear c4;refine st ?_;refine lv (Ah0 rfl An6 hxk.own) ?_;refine Ag3 (X:=Str) (n0:=[(xb,_),(b2,_)]) (rep.length) (fun j y q=>(91,.int .i64 (j:Int))::(14,.string (bs y))::q) (fun _ _=>_) (fun j y=>[]) (fun j y=>ownB 9 xo (rep.map strC).flatten++(dkB xd++[])) (fun j y=>y=scriptX (rep.take j)∧y.length≤4001 * j) [] ⟨rfl,Nat.le_refl _⟩ rfl (zE 91 rfl rfl (zE 14 rfl rfl (zS 1 rfl (zS 2 rfl (zS 8 rfl (zS 12 rfl (zS 13 rfl (zS 89 rfl (zS 90 rfl (Sub.nil _)))))))))) (.cons .here rfl (.cons .here rfl (Pick.same rfl))) ?_;intro j y jN jI;obtain ⟨jI,jy⟩:=jI;refine st ?_;refine cn rfl ?_ ?_
  ·intro c5'
   have hj:j < rep.length:=by omega
   obtain ⟨u,hu⟩:∃ u,rep[j]=u:=⟨_,rfl⟩;have hul:=hsh u (hu ▸ List.getElem_mem hj);refine st ?_;refine lv (Aa7 (by show some (ownV xo rep.length)=_;rw [Ad2 hxk.own]) rfl An6 (by omega) (by omega) (AX0 hxk.own (by omega))) ?_;refine lv (Aa9 rfl (fun w hm=>Sl.loadM1 (Am3 (f:=strC) (e:=9) (fun _=>rfl) (by decide) hxk.own (fun b o h=>hm.at (.tail _ (.tail _ ((by first | exact List.mem_append_left _ h | exact List.mem_append_right _ (List.mem_append_left _ h))))))) (by decide) (Mem.refl w) (by simp) AC9 hj (v:=.string (bs u)) (by simp [strC,hu]))) ?_;refine lv (Ar2 rfl rfl (by simp;omega)) ?_;refine lv (Ar2 rfl rfl (by simp;omega)) ?_;refine lv (Val.add rfl rfl (IntWalk.i64_in _ ⟨by omega,by omega⟩)) ?_;exact Ad1 (y++(u++[10])) (by omega) ⟨(by rw [List.take_succ_eq_append_getElem hj,hu,AD4,jI]),(by simp only [List.length_append,List.length_singleton];omega)⟩ rfl (zE 91 rfl rfl (zE 14 rfl rfl (zS 1 rfl (zS 2 rfl (zS 8 rfl (zS 12 rfl (zS 13 rfl (zS 89 rfl (zS 90 rfl (Sub.nil _)))))))))) (Pick.cnt fun x=>by simp only [nC,List.append_nil,dkM];omega)
  intro c5';have hj:j=rep.length:=by omega
  rw [hj,List.take_length] at jI;have AR6:scriptX (playX (bareC c) noBn l).2=y:=by (rw [hpl,jI])
  refine RunC.exit ?_;refine su ?_;refine Ab0 ?_;refine su ?_;refine Aj4 [(xb,_),(b2,_)] _ rfl (zF rfl Cy1) rfl rfl rfl (fun w hm=>Bl0 c q b o cap l w (hS.mono (by decide) hm (by simp)) hq (by omega) (hL.mono hm) ql bl ol cl (hls.mono (by decide) hm (by simp)) (by omega) (fun s hs=>by have:=hl5 s hs;omega) hc) (fun z103=>?_)
  obtain ⟨⟨vb,vd,vo,vl⟩,hvk⟩:=z103;dsimp only at hvk ⊢;have hpp:=hvk.pl;rw [hpl] at hpp
  injection hpp with hv1 hv2
  subst hv2;refine st ?_;refine BF9 (Ac1 _) (news':=(vb,dkO vd c)::(xb,dkO xd c)::(b2,.cells (cellsL (c.v q cap)).toArray 28 (0,0))::(ownB 9 vo (rep.map strC).flatten++(ownB 9 xo (rep.map strC).flatten++(dkB vd++(dkB xd++[]))))) (Pick.cnt fun x=>by simp only [nC,List.append_nil,dkM];omega) ?_;refine st ?_;refine lv (Ak5 rfl hund) ?_;refine lv (Ap1 rfl rfl) ?_;refine Ae3 (dj:=113) false rfl (by simp [AR6]) ?_;refine st ?_;refine lv (Ah0 rfl An6 hvk.own) ?_;refine lv (Ah0 rfl An6 hxk.own) ?_;refine Ae3 (dj:=120) false rfl (by simp) ?_;refine st ?_;refine Aj4 [(vb,_),(xb,_),(b2,_)] _ rfl (zF rfl BV1) rfl rfl rfl (fun w hm=>AF5 xb xd c hxk.dk w (Ak3 hxk.dk (hm.pick (news':=dkM xb xd c []) (Pick.cnt fun x=>by simp only [nC,List.append_nil,dkM];omega)))) (fun z122=>?_)
  skip
  refine st ?_;refine Aj4 [(vb,_),(xb,_),(b2,_)] _ rfl (zF rfl BV1) rfl rfl rfl (fun w hm=>AF5 vb vd c hvk.dk w (Ak3 hvk.dk (hm.pick (news':=dkM vb vd c []) (Pick.cnt fun x=>by simp only [nC,List.append_nil,dkM];omega)))) (fun z124=>?_)
  skip
  refine zc (zF rfl CT4) (fun w hm=>Bf8 z122.1 z124.1 z122.2.1 z124.2.1 (by rw [z122.2.2,z124.2.2];exact hx1.symm.trans hv1) w (BW1 z122.2.1 (hm.pick (news':=dkB z122.1++[]) (Pick.cnt fun x=>by simp only [nC,List.append_nil,dkM];omega))) (BW1 z124.2.1 (hm.pick (news':=dkB z124.1++[]) (Pick.cnt fun x=>by simp only [nC,List.append_nil,dkM];omega)))) ?_;refine RunC.cond rfl (fun h=>absurd h (by simp)) ?_;intro c6;clear c6;refine st ?_;refine Aj9 (zF rfl BV0) rfl rfl rfl (fun w hm=>(As2 (nw':=fun z:DkX×Str×Int=>(vb,dkO vd c)::(xb,dkO z.1 c)::(dkB z.1++(dkB vd++[]))) (AK6 wWays (by decide) xb xd c ((vb,dkO vd c)::dkB vd) W w hL hxk.dk (hm.pick (Pick.cnt fun x=>by simp only [nC,List.append_nil,dkM];omega))) (fun _=>(Pick.cnt fun x=>by simp only [nC,List.append_nil,dkM];omega)))) (fun z129 hz129=>?_)
  obtain ⟨hzd129,hzs129⟩:=hz129;have hst129:=(Bw9 hzs129 (fun h=>absurd h.2 (by decide))).1;refine st ?_;refine Aj9 (zF rfl BV0) rfl rfl rfl (fun w hm=>(As2 (nw':=fun z:DkX×Str×Int=>(vb,dkO vd c)::(xb,dkO z.1 c)::(dkB z.1++(dkB vd++[]))) (AK6 wMoved0 (by decide) xb z129.1 c ((vb,dkO vd c)::dkB vd) W w hL hzd129 (hm.pick (Pick.cnt fun x=>by simp only [nC,List.append_nil,dkM];omega))) (fun _=>(Pick.cnt fun x=>by simp only [nC,List.append_nil,dkM];omega)))) (fun z131 hz131=>?_)
  obtain ⟨hzd131,hzs131⟩:=hz131;have hst131:=(Bw9 hzs131 (fun h=>absurd h.2 (by decide))).1;refine st ?_;refine Aj4 [(vb,_),(xb,_)] _ rfl (zF rfl BV1) rfl rfl rfl (fun w hm=>AF5 xb z131.1 c hzd131 w (Ak3 hzd131 (hm.pick (news':=dkM xb z131.1 c []) (Pick.cnt fun x=>by simp only [nC,List.append_nil,dkM];omega)))) (fun z133=>?_)
  skip
  refine st ?_;refine Aj4 [(vb,_),(xb,_)] _ rfl (zF rfl BV1) rfl rfl rfl (fun w hm=>AF5 vb vd c hvk.dk w (Ak3 hvk.dk (hm.pick (news':=dkM vb vd c []) (Pick.cnt fun x=>by simp only [nC,List.append_nil,dkM];omega)))) (fun z135=>?_)
  skip
  refine zc (zF rfl CT4) (fun w hm=>Bf8 z133.1 z135.1 z133.2.1 z135.2.1 (by rw [z133.2.2,z135.2.2];exact (hst131.trans hst129).trans (hx1.symm.trans hv1)) w (BW1 z133.2.1 (hm.pick (news':=dkB z133.1++[]) (Pick.cnt fun x=>by simp only [nC,List.append_nil,dkM];omega))) (BW1 z135.2.1 (hm.pick (news':=dkB z135.1++[]) (Pick.cnt fun x=>by simp only [nC,List.append_nil,dkM];omega)))) ?_;refine Ae3 (dj:=137) true rfl (by simp) ?_;refine zc (zF rfl Ce2) (fun w hm=>Ap0 w (hL.mono hm)) ?_;exact Aa4 (.r1 rfl (.tmp rfl)) (by first | rfl | simp)
end Go.Proofs.YtnmkdiagbkkmaabGreatDoor
namespace Go.Proofs.YtnmkdiagbkkmaabGreatDoor
open Go Go.Eng Go.Pw1

abbrev spSh:Sh:=.st [.int .i64,.int .i64]
abbrev plSh:Sh:=.st [spSh,spSh]
abbrev thSh:Sh:=.st [plSh,plSh,.int .i64]
abbrev prSh:Sh:=.st [spSh,spSh,.int .i64,.int .i64,.int .i64,.sl thSh]
theorem Cn4 {w:World} {cs:List Value} (h:Rd w spSh cs):∃ s:Sp,cs=[.int .i64 s.lo,.int .i64 s.hi]:=by
  cases h with
  | recS h1 h2 =>
    cases h1
    cases h2 with
    | recS h3 h4 =>
      cases h3
      cases h4
      exact ⟨⟨_,_⟩,rfl⟩
theorem Dk0 {w:World} {cs:List Value} (h:Rd w plSh cs):∃ s t:Sp,cs=[.int .i64 s.lo,.int .i64 s.hi,.int .i64 t.lo,.int .i64 t.hi]:=by
  cases h with
  | recS h1 h2 =>
    obtain ⟨s,rfl⟩:=Cn4 h1
    cases h2 with
    | recS h3 h4 =>
      obtain ⟨t,rfl⟩:=Cn4 h3
      cases h4
      exact ⟨s,t,rfl⟩
theorem Ds1 {w:World} {cs:List Value} (h:Rd w thSh cs):∃ t:Th,cs=t.cells:=by
  cases h with
  | recS h1 h2 =>
    obtain ⟨a,b,rfl⟩:=Dk0 h1
    cases h2 with
    | recS h3 h4 =>
      obtain ⟨c,d,rfl⟩:=Dk0 h3
      cases h4 with
      | recS h5 h6 =>
        cases h5
        cases h6
        exact ⟨⟨a,b,c,d,_⟩,rfl⟩
theorem BI8 {α:Type} {f:α→List Value}:∀ {xs:List (List Value)},(∀ x∈xs,∃ a,x=f a)→∃ l:List α,xs=l.map f
  | [],_=>⟨[],rfl⟩
  | x::xs,h=>by
    obtain ⟨a,rfl⟩:=h x (by simp);obtain ⟨l,rfl⟩:=BI8 (xs:=xs) (fun y hy=>h y (List.mem_cons_of_mem _ hy));exact ⟨a::l,rfl⟩
structure In (w:World) (p:Pr) (q:Option Addr) (b o cap:Nat):Prop where
  s:Sl w q b o 9 (p.things.map Th.cells)
  n:q=none→p.things.length=0∧cap=0
theorem Ds2 {w:World} {cs:List Value} (h:Rd w prSh cs):∃ (p:Pr) (q:Option Addr) (b o cap:Nat),cs=p.cells q cap∧In w p q b o cap:=by
  cases h with
  | recS h1 h2 =>
  obtain ⟨f,rfl⟩:=Cn4 h1
  cases h2 with
  | recS h1 h2 =>
  obtain ⟨g,rfl⟩:=Cn4 h1
  cases h2 with
  | recS h1 h2 =>
  cases h1
  cases h2 with
  | recS h1 h2 =>
  cases h1
  cases h2 with
  | recS h1 h2 =>
  cases h1
  cases h2 with
  | recS h1 h2 =>
  cases h2
  cases h1 with
  | slNil=>exact ⟨⟨f,g,_,_,_,[]⟩,none,0,0,0,rfl,⟨Sl.emp,fun _=>⟨rfl,rfl⟩⟩⟩
  | sl hs hl hc hx =>
    obtain ⟨ts,rfl⟩:=BI8 (f:=Th.cells) (fun x hx'=>Ds1 (hx x hx'));exact ⟨⟨f,g,_,_,_,ts⟩,some _,_,_,_,by rw [List.length_map];rfl,⟨hs,fun h=>by cases h⟩⟩
abbrev cdSh:Sh:=.st [prSh,.int .i64,.int .i64,.int .i64,spSh,.int .i64,.int .i64,.int .i64,.int .i64]
theorem Ds4 {w:World} {cs:List Value} (h:Rd w cdSh cs):∃ (c:Cd) (q:Option Addr) (b o cap:Nat),cs=c.cells q cap∧In w c.p q b o cap:=by
  cases h with
  | recS h1 h2 =>
  obtain ⟨p,q,b,o,cap,rfl,hp⟩:=Ds2 h1
  cases h2 with
  | recS h1 h2 =>
  cases h1
  cases h2 with
  | recS h1 h2 =>
  cases h1
  cases h2 with
  | recS h1 h2 =>
  cases h1
  cases h2 with
  | recS h1 h2 =>
  obtain ⟨e,rfl⟩:=Cn4 h1
  cases h2 with
  | recS h1 h2 =>
  cases h1
  cases h2 with
  | recS h1 h2 =>
  cases h1
  cases h2 with
  | recS h1 h2 =>
  cases h1
  cases h2 with
  | recS h1 h2 =>
  cases h1
  cases h2
  exact ⟨⟨p,_,_,_,e,_,_,_,_⟩,q,b,o,cap,rfl,hp⟩
end Go.Proofs.YtnmkdiagbkkmaabGreatDoor
namespace Go.Eng
open Go Go.RowKit Go.ChangeShapes Go.WideShapes Go.ChangeAt
theorem AR5 {H:Type} {enc:TypeId×Value→H} {a:Assume} {C:Checked} {os:Os} {f:FuncId} {fn:Func} {s:ChangeSpec} {conds:List PathCond} {apart fresh handsOn again:Bool} {X:World→Array Value→Prop}
    (hX:∀ (w w':World) (args:Array Value),w.heap=w'.heap→X w args→X w' args)
    (own:ownKnob C.prog.godebug=none) (started:os.Started) (noInit:C.prog.inits.idxOf? f=none) (hfn:C.prog.funcs[f]? = some fn)
    (witness:∃ (w:World) (tape:Tape) (i:Input),w.os=os∧(w.forCall tape i).Shaped C.prog∧i.vars=[]∧Input.okWide C.prog (w.forCall tape i) .any w.heap.size f i ∧
      ((s.pre enc C.prog fn conds apart (w.forCall tape i).memory i.args∧X (w.forCall tape i).memory i.args)∧sizedMet enc C.prog fn (OpenSpec.ofChange s) apart (w.forCall tape i).memory i.args)∧a.holds C.prog (lone (Frame.enter C.prog f i.args .normal) [] (w.forCall tape i)))
    (contract:∀ (W:World) (base:Nat) (args:Array Value) (ds gs:List (DataW H)) (before:List MemPlace),
      (∀ (j:Nat) t v,fn.params[j]? = some t→args[j]? = some v→Value.okWide C.prog W .any base t v) →
      DataW.Whole enc C.prog fn.params.toList s.vars apart W args.toList ds gs before→W.ShapedOpen C.prog→X W args →
      Calls C.prog f args W fun e W'=>∃ v,e = .returned v∧s.post enc C.prog fn apart fresh handsOn again W args v W') :
    ReturnsInHanded a C os f .any (fun w args=>(s.pre enc C.prog fn conds apart w args∧X w args)∧sizedMet enc C.prog fn (OpenSpec.ofChange s) apart w args) (s.post enc C.prog fn apart fresh handsOn again):=by
  refine returnsInHanded_of_calls own started noInit witness ?_;intro w tape i _ hsh _ hok hpre hholds;obtain ⟨_,_,_,fn',hfn',_,_,_,_,hval⟩:=hok;have e:fn'=fn:=Option.some.inj (hfn'.symm.trans hfn);subst e;obtain ⟨⟨⟨ds,gs,before,hw,hc⟩,hx⟩,hz⟩:=hpre;have hw':=DataW.Whole.of_heap (w':=w.forCall tape i) (by rfl) hw;refine (contract (w.forCall tape i) w.heap.size i.args ds gs before hval hw' hsh (hX _ _ _ (by rfl) hx)).mono fun e W' ⟨v,he,hp⟩=>?_
  subst he;exact ChangeSpec.post_blind hp
theorem Br3 {H:Type} {enc:TypeId×Value→H} {P:Program} {f:Func} {s:ChangeSpec} {n:Nat} {shs:List Sh} {tb:TypeId} {F:FuncId} (hl:laidOutB P=true) (hsh:f.params.toList.mapM (shapeB P n)=some shs)
    (hp:f.params.toList.all (fun t=>P.readableRec t && decide (t < P.types.size))=true) (hr:f.resultTypes = #[tb]) (hb:P.underlying tb=some .bool) (hvars:s.vars=[])
    (hfn:∀ ds:List (DataW H),ds.length=f.params.toList.length→s.fn H (ds++[])={ results:=[.lit (.bool true)],args:=ds })
    {W:World} (walk:∀ vs:List Value,RdAll W shs vs→Calls P F vs.toArray W (Pure (.bool true) W)) {base:Nat} {args:Array Value} {ds gs:List (DataW H)} {before:List MemPlace} (hval:∀ (j:Nat) t v,f.params[j]? = some t→args[j]? = some v→Value.okWide P W .any base t v)
    (hW:DataW.Whole enc P f.params.toList s.vars false W args.toList ds gs before) :
    Calls P F args W fun e W'=>∃ v,e = .returned v∧s.post enc P f false true false false W args v W':=by
  have hW':=hW;obtain ⟨p,q,hA,hV,rfl,hfz,hnd⟩:=hW;rw [hvars] at hV;obtain ⟨rfl,rfl⟩:=trodVars_none hV;have hrd:RdAll W shs args.toList:=BS5 hsh (fun j t v hj hv=>hval j t v (by simpa using hj) (by simpa using hv)) hA
  have hlen:ds.length=f.params.toList.length:=by
    clear hW' hval hrd hfn hp hsh hfz hnd hV
    generalize f.params.toList=ts at hA
    generalize args.toList=vs at hA
    induction ts generalizing vs ds p with
    | nil=>obtain ⟨_,rfl,_⟩:=trodAll_nil hA;rfl
    | cons t ts ih =>
      obtain ⟨v,vs',d,ds',p,q,rfl,rfl,rfl,h0,hr⟩:=trodAll_cons hA;simp [ih _ _ hr]
  refine (walk args.toList hrd).mono fun e W' ⟨he,hm⟩=>?_
  subst he;have bel:=hm.below;refine ⟨_,rfl,ds,[],p++[],[],p,[],hW',?_,?_,?_,bel.frame _,fun h=>by cases h⟩
  · rw [hfn ds hlen,hr]
    exact trodAll_mk1 (shut_bool hb _)
  · rw [hfn ds hlen]
    exact AN2 hl bel hp hA
  · rw [hvars,hfn ds hlen]
    rfl
theorem Bl3 {P:Program} {n nm:String} {d:DataW Unit} {r:List (String×DataW Unit)} {W:World} {g:Nat} {ti:TypeId} {ms:Array (String×TypeId)}
    (h:laidMet P ((n,.iface nm d)::r) W) (hg:P.globalNamed n=some g) (ht:(P.globals[g]?).map (·.type)=some ti) (hi:P.underlying ti=some (.interface ms)):∃ te pe,W.cell? ⟨g,0,none⟩=some (.iface te pe):=by
  obtain ⟨ps,⟨g0,t0,cs0,f0,p0,q0,hg0,ht0,hv0,hd0,_,e0⟩,_,hrows⟩:=h;obtain rfl:=Option.some.inj (hg.symm.trans hg0);obtain rfl:=Option.some.inj (ht.symm.trans ht0);obtain ⟨f',u,v,hcs,_,_⟩:=iface_of_trod hi hd0;have h1:=World.var?_cell hg0 hv0 0
  have e:cs0 = #[.iface u v]:=by
    obtain ⟨l⟩:=cs0;simp only at hcs
    rw [hcs]
  rw [e] at h1;exact ⟨u,v,by simpa using h1⟩
end Go.Eng
namespace Go.Proofs.YtnmkdiagbkkmaabGreatDoor
open Go Go.Eng Go.Dk Go.RowKit Go.Pw1 Go.Hp

abbrev laidL:List (String×DataW Unit):=[("math/bits.deBruijn32tab",Rows.laid_math_bits_deBruijn32tab),("math/bits.deBruijn64tab",Rows.laid_math_bits_deBruijn64tab),("internal/strconv.uint64pow10",Rows.laid_internal_strconv_uint64pow10),("unicode/utf8.acceptRanges",Rows.laid_unicode_utf8_acceptRanges),("strconv.ErrRange",Rows.laid_strconv_ErrRange),("strconv.ErrSyntax",Rows.laid_strconv_ErrSyntax),("unicode/utf8.first",Rows.laid_unicode_utf8_first)]
theorem Dt7:((begin Tryz.prog (fun _ _=>0) default).world.heap[0]?).bind Obj.row? = some (#[.int .i64 0],3):=by kernel_rfl
theorem Ds6 {W:World} (hsh:W.ShapedOpen Tryz.prog) (hL:laidMetH Tryz.prog laidL W):Lw Tryz.prog W:=by
  rw [MakeChecks.laidMetH_plain _ _ _ (by kernel_rfl)] at hL;have h3:=hL.tail.tail;have h5:=h3.tail.tail;obtain ⟨te,pe,h1⟩:=Bl3 h5 (g:=3) (by kernel_rfl) (by kernel_rfl) Tryz.underlying79;obtain ⟨te2,pe2,h2⟩:=Bl3 h5.tail (g:=2) (by kernel_rfl) (by kernel_rfl) Tryz.underlying79
  exact ⟨cell_of_shapedOpen_int hsh (by decide) Dt7 rfl (by kernel_rfl) (by kernel_rfl) Tryz.underlying3,
    Lib.tabIs_of_head (g:=1) (t:=283) (n:=20) (e:=179) (by kernel_rfl) (by kernel_rfl) (by kernel_rfl) (by kernel_rfl) (by kernel_rfl) (by kernel_rfl) h3,
    ⟨_,h2,.inr ⟨_,_,rfl⟩⟩,⟨_,h1,.inr ⟨_,_,rfl⟩⟩⟩
theorem Cs9 (os:Os):(World.holding Tryz.prog os ⟨#[],#[],[]⟩).layFits Tryz.prog laidL []=true:=by kernel_rfl
theorem BK3 (os:Os):(World.holding Tryz.prog os ⟨#[],#[],[]⟩).layIfaces Tryz.prog laidL (World.laidAll Tryz.prog os laidL)=true:=by kernel_rfl
theorem Dj9 {w:World} {cs:List Value} (h:Rd w .str cs):∃ s:Str,cs=strC s:=by
  cases h with
  | @str v=>exact ⟨v.data.toList,rfl⟩
theorem CX5 {w:World} {cs:List Value} (h:Rd w (.sl .str) cs):∃ (l:List Str) (q:Option Addr) (b o cap:Nat),cs=[Value.slice q l.length cap]∧Sl w q b o 1 (l.map strC):=by
  cases h with
  | slNil=>exact ⟨[],none,0,0,0,rfl,Sl.emp⟩
  | @sl _ ad cap2 _ hs hl hc hx =>
    obtain ⟨l,rfl⟩:=BI8 (f:=strC) (fun x hx'=>Dj9 (hx x hx'));exact ⟨l,some ad,_,_,cap2,by rw [List.length_map],hs⟩
end Go.Proofs.YtnmkdiagbkkmaabGreatDoor
namespace Go.Proofs.YtnmkdiagbkkmaabGreatDoor
open Go Go.Eng Go.Dk Go.RowKit Go.Pw1 Go.Hp

theorem Bh5 (W:World) (vs:List Value) (hL:Lw Tryz.prog W) (h:RdAll W [cdSh,.sl .str] vs):Calls Tryz.prog 5 vs.toArray W (Pure (.bool true) W):=by
  cases h with
  | cons h1 h =>
  cases h with
  | cons h2 h =>
  cases h
  obtain ⟨c,q,b,o,cap,rfl,hp⟩:=Ds4 h1;obtain ⟨l,ql,bl,ol,cl,rfl,hl⟩:=CX5 h2;have hq:q=none→cap=0:=fun h=>(hp.n h).2
  cases hf:farL c l with
  | true=>exact Cd3 c q b o cap hq l ql bl ol cl W hL hp.s hl hf
  | false =>
    cases hh:heavyC c with
    | true=>exact BA2 c q b o cap hq l ql bl ol cl W hL hp.s hl hf hh
    | false =>
      cases hc:cardIs c with
      | true=>exact Ct0 c q b o cap hq l ql bl ol cl W hL hp.s hl hf hh hc
      | false=>exact Ct1 c q b o cap hq l ql bl ol cl W hL hp.s hl hf hh hc
end Go.Proofs.YtnmkdiagbkkmaabGreatDoor
